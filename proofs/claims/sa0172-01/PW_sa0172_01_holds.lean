import PyProof.Rows.All
import Wide.All
import OpenK.AllK
import Wide.FinOn
import KE.KUnpack
import OpenK.KMake
import KE.KDictList
import KE.KSortTup
import PyProof.WalksMore
import PyProof.SliceMore
import PyProof.ConsumeS
import PyProof.SumAny
import PyProof.ListCopy
import Lean
import PySem.Challenge.RW_sa0172_01
open PySem PySem.W PySem.Calls PyProof.Rows
set_option Elab.async false
set_option linter.all false
set_option compiler.extract_closed false
set_option tactic.hygienic false
set_option genInjectivity false
set_option genSizeOf false
set_option genCtorIdx false
set_option maxRecDepth 100000
set_option maxHeartbeats 8000000
namespace Mine
theorem some2 {α β:Type} {a a':α} {b b':β} (h:some (a,b) = some (a',b')):a = a' ∧ b = b':=Prod.mk.inj (Option.some.inj h)
theorem all_cons {α:Type} {P:α -> Prop} {a:α} {l:List α} (h:P a) (k:∀ x ∈ l,P x):∀ x ∈ a :: l,P x:=List.forall_mem_cons.mpr ⟨h,k⟩
theorem all_nil {α:Type} {P:α -> Prop}:∀ x ∈ ([]:List α),P x:=fun _ h=>nomatch h
theorem map_elim {α β:Type} {f:α -> β} {x:Option α} {b:β} {C:Prop} (h:x.map f = some b) (k:∀ a,x = some a -> f a = b -> C):C:=by
 obtain ⟨a,h1,h2⟩:=Option.map_eq_some_iff.mp h
 exact k a h1 h2
theorem obind_elim {α β:Type} {f:α -> Option β} {x:Option α} {b:β} {C:Prop} (h:x.bind f = some b) (k:∀ a,x = some a -> f a = some b -> C):C:=by
 obtain ⟨a,h1,h2⟩:=Option.bind_eq_some_iff.mp h
 exact k a h1 h2
theorem obind_of {α β:Type} {f:α -> Option β} {x:Option α} {a:α} {r:Option β} (h:x = some a) (k:f a = r):x.bind f = r:=by rw [h]; exact k
theorem omap_of {α β:Type} {f:α -> β} {x:Option α} {a:α} (h:x = some a):x.map f = some (f a):=by rw [h]; rfl
theorem some2E {α β:Type} {a a':α} {b b':β} {C:Prop} (h:some (a,b) = some (a',b')) (k:a = a' -> b = b' -> C):C:=k (some2 h).1 (some2 h).2
theorem none_some {α:Type} {a:α} {C:Prop} (h:(none:Option α) = some a):C:=nomatch h
theorem wpIteT {M:Model} {A:Around} {α:Type} {a b:Sem α} {Q:α -> Shared -> Prop} {E:Value -> Shared -> Prop} {s:Shared} (h:wpAny M A a Q E s):wpAny M A (if true = true then a else b) Q E s:=by rw [if_pos rfl]; exact h
theorem wpIteF {M:Model} {A:Around} {α:Type} {a b:Sem α} {Q:α -> Shared -> Prop} {E:Value -> Shared -> Prop} {s:Shared} (h:wpAny M A b Q E s):wpAny M A (if false = true then a else b) Q E s:=by rw [if_neg Bool.false_ne_true]; exact h
theorem head_some {α:Type} {l:List α} {a:α} (h:l.head? = some a):∃ ts,l = a :: ts:=by
 cases l with
 | nil=>exact none_some h
 | cons b ts=>exact ⟨ts,congrArg (· :: ts) (Option.some.inj h)⟩
theorem hG9 {G:Prop} (h:∀ P:Prop,(G -> P) -> P):G:=h G id
inductive Ex2 {α1 α2:Type} (p:α1 -> α2 -> Prop):Prop
 | mk (x1:α1) (x2:α2) (h:p x1 x2)
inductive Ex3 {α1 α2 α3:Type} (p:α1 -> α2 -> α3 -> Prop):Prop
 | mk (x1:α1) (x2:α2) (x3:α3) (h:p x1 x2 x3)
inductive Ex4 {α1 α2 α3 α4:Type} (p:α1 -> α2 -> α3 -> α4 -> Prop):Prop
 | mk (x1:α1) (x2:α2) (x3:α3) (x4:α4) (h:p x1 x2 x3 x4)
inductive Ex5 {α1 α2 α3 α4 α5:Type} (p:α1 -> α2 -> α3 -> α4 -> α5 -> Prop):Prop
 | mk (x1:α1) (x2:α2) (x3:α3) (x4:α4) (x5:α5) (h:p x1 x2 x3 x4 x5)
inductive Ex6 {α1 α2 α3 α4 α5 α6:Type} (p:α1 -> α2 -> α3 -> α4 -> α5 -> α6 -> Prop):Prop
 | mk (x1:α1) (x2:α2) (x3:α3) (x4:α4) (x5:α5) (x6:α6) (h:p x1 x2 x3 x4 x5 x6)
inductive Ex7 {α1 α2 α3 α4 α5 α6 α7:Type} (p:α1 -> α2 -> α3 -> α4 -> α5 -> α6 -> α7 -> Prop):Prop
 | mk (x1:α1) (x2:α2) (x3:α3) (x4:α4) (x5:α5) (x6:α6) (x7:α7) (h:p x1 x2 x3 x4 x5 x6 x7)
inductive Ex8 {α1 α2 α3 α4 α5 α6 α7 α8:Type} (p:α1 -> α2 -> α3 -> α4 -> α5 -> α6 -> α7 -> α8 -> Prop):Prop
 | mk (x1:α1) (x2:α2) (x3:α3) (x4:α4) (x5:α5) (x6:α6) (x7:α7) (x8:α8) (h:p x1 x2 x3 x4 x5 x6 x7 x8)
inductive And3 (a1 a2 a3:Prop):Prop
 | mk (h1:a1) (h2:a2) (h3:a3):And3 a1 a2 a3
inductive And4 (a1 a2 a3 a4:Prop):Prop
 | mk (h1:a1) (h2:a2) (h3:a3) (h4:a4):And4 a1 a2 a3 a4
inductive And5 (a1 a2 a3 a4 a5:Prop):Prop
 | mk (h1:a1) (h2:a2) (h3:a3) (h4:a4) (h5:a5):And5 a1 a2 a3 a4 a5
inductive And6 (a1 a2 a3 a4 a5 a6:Prop):Prop
 | mk (h1:a1) (h2:a2) (h3:a3) (h4:a4) (h5:a5) (h6:a6):And6 a1 a2 a3 a4 a5 a6
inductive And7 (a1 a2 a3 a4 a5 a6 a7:Prop):Prop
 | mk (h1:a1) (h2:a2) (h3:a3) (h4:a4) (h5:a5) (h6:a6) (h7:a7):And7 a1 a2 a3 a4 a5 a6 a7
inductive And8 (a1 a2 a3 a4 a5 a6 a7 a8:Prop):Prop
 | mk (h1:a1) (h2:a2) (h3:a3) (h4:a4) (h5:a5) (h6:a6) (h7:a7) (h8:a8):And8 a1 a2 a3 a4 a5 a6 a7 a8
inductive And9 (a1 a2 a3 a4 a5 a6 a7 a8 a9:Prop):Prop
 | mk (h1:a1) (h2:a2) (h3:a3) (h4:a4) (h5:a5) (h6:a6) (h7:a7) (h8:a8) (h9:a9):And9 a1 a2 a3 a4 a5 a6 a7 a8 a9
inductive And11 (a1 a2 a3 a4 a5 a6 a7 a8 a9 a10 a11:Prop):Prop
 | mk (h1:a1) (h2:a2) (h3:a3) (h4:a4) (h5:a5) (h6:a6) (h7:a7) (h8:a8) (h9:a9) (h10:a10) (h11:a11):And11 a1 a2 a3 a4 a5 a6 a7 a8 a9 a10 a11
noncomputable def byText (w:World):Bool:=w.params.followText "set-order"
noncomputable def SetL (p:Program) (w:World) (h:Heap) (a:Addr) (S:Int -> Bool) (n:Nat):Prop :=
 ∃ o es ep t,h.get? a = some o ∧ o.ExactSet ∧ o.data = .set es ep t ∧ ElemsOf (intKind p w) es.toList ∧ (∀ k,S k = true ↔ ∃ e ∈ es.toList,(intKind p w).is k e.2 = true)
  ∧ es.size < scanBound ∧ t.fits es.size = true ∧ es.size = n ∧ (t.led = true ∨ byText w = true)
theorem SetL.of {p:Program} {w:World} {h:Heap} {a:Addr} {S:Int -> Bool} {n:Nat} (x:SetL p w h a S n):h.SetOf (intKind p w) a S n:=(by obtain ⟨o,es,ep,t,h1,h2,h3,h4,h5,h6,h7,h8,_⟩:=x; exact ⟨o,es,ep,t,h1,h2,h3,h4,h5,h6,h7,h8⟩)
theorem SetL.keep {p:Program} {w:World} {h h':Heap} {a:Addr} {S:Int -> Bool} {n:Nat} (x:SetL p w h a S n) (k:∀ o,h.get? a = some o -> h'.get? a = some o):SetL p w h' a S n:=(by obtain ⟨o,es,ep,t,h1,r⟩:=x; exact ⟨o,es,ep,t,k o h1,r⟩)
theorem SetL.congr {p:Program} {w:World} {h:Heap} {a:Addr} {S S':Int -> Bool} {n n':Nat} (x:SetL p w h a S n) (e:∀ k,S k = S' k) (en:n = n'):SetL p w h a S' n':=by
 have:S = S':=funext e
 subst this; subst en; exact x
noncomputable def tabX (n:Nat) (f m:Nat) (led:Bool):SetTable:={ mask:=7,place:=((List.range n).map (· + 1)).toArray,dummies:=#[],finger:=f,led:=led,moves:=m,plain:=true }
noncomputable def esX (ts:List Tok):Array (Int × Value):=(ts.zipIdx.map fun x=>(((x.2:Int) + 1),Value.int ((x.2:Int) + 1) x.1)).toArray
noncomputable def SetX (w:World) (h:Heap) (a:Addr) (n:Nat):Prop :=
 ∃ ts ep f m led,ts.length = n ∧ h.get? a = some { cls:=.type "set",dict:=none,data:=.set (esX ts) ep (tabX n f m led),slots:=#[] } ∧ (led = true ∨ byText w = true)
theorem SetX.keep {w:World} {h h':Heap} {a:Addr} {n:Nat} (x:SetX w h a n) (k:∀ o,h.get? a = some o -> h'.get? a = some o):SetX w h' a n:=(by obtain ⟨ts,ep,f,m,led,e,h1,r⟩:=x; exact ⟨ts,ep,f,m,led,e,k _ h1,r⟩)
theorem nA {a b c:Nat} (h:a < b) (k:b ≤ c):a < c:=Nat.lt_of_lt_of_le h k
theorem nB {a b c:Nat} (h:a ≤ b) (k:b < c):a < c:=Nat.lt_of_le_of_lt h k
theorem nB2 {a b c:Nat} (h:a ≤ b) (k:b ≤ c):a ≤ c:=Nat.le_trans h k
theorem nC {a b c d:Nat} (h:a ≤ b) (g:b < c) (k:c ≤ d):a < d:=nA (nB h g) k
theorem nD {a b c d:Nat} (h:a ≤ b) (g:b ≤ c) (k:c < d):a < d:=nB (nB2 h g) k
theorem nD2 {a b c d:Nat} (h:a ≤ b) (g:b ≤ c) (k:c ≤ d):a ≤ d:=nB2 (nB2 h g) k
theorem nE {a b c:Nat} (h:a = b) (k:b < c):a < c:=h ▸ k
theorem nE2 {a b c:Nat} (h:a = b) (k:b ≤ c):a ≤ c:=h ▸ k
theorem nF {a b c d:Nat} (h:a = b) (g:b < c) (k:c ≤ d):a < d:=nE h (nA g k)
theorem nG {a b c d:Nat} (h:a = b) (g:b ≤ c) (k:c < d):a < d:=nE h (nB g k)
theorem nH {a b c d:Nat} (h:a + b < c) (k:c ≤ d):a < d:=nC (Nat.le_add_right a b) h k
theorem nM {n p q:Nat} (h:n = p + (q + 1)):p < n:=h ▸ Nat.lt_add_of_pos_right (Nat.succ_pos q)
theorem nO {n p q:Nat} (h:n = p + (q + 1)):p ≤ n:=Nat.le_of_lt (nM h)
theorem nJ {n p q m c:Nat} (h:n = p + (q + 1)) (g:n < m) (k:m ≤ c):p < c:=nA (Nat.lt_trans (nM h) g) k
theorem nL {n p q m c:Nat} (h:p + (q + 1) = n) (g:n < m) (k:m ≤ c):p < c:=nJ h.symm g k
theorem nR {a b c d e:Nat} (h:a < d) (g:b < e) (k:d + e ≤ c):a + b < c:=nA (Nat.add_lt_add h g) k
theorem tA {i:Int} {n:Nat} (h0:0 ≤ i) (h:i < (n:Int)):i.toNat < n:=(Int.toNat_lt h0).mpr h
theorem tB {i:Int} {n c d:Nat} (h:i < (n:Int)) (g:n < c) (k:c ≤ d):i.toNat < d:=nC (Int.toNat_le.mpr (Int.le_of_lt h)) g k
theorem tP {v:Int} (h:1 ≤ v):0 < v.toNat:=Int.lt_toNat.mpr h
theorem tC {v:Int} {n:Nat} (h:1 ≤ v ∧ v ≤ (n:Int)):v.toNat - 1 < n:=nA (Nat.sub_lt (tP h.1) Nat.one_pos) (Int.toNat_le.mpr h.2)
theorem tE {n m:Nat} (h:1 ≤ n ∧ n < 1 + m):n - 1 < m:=Nat.sub_lt_left_of_lt_add h.1 h.2
theorem tF {n m k:Nat} (g:m ≤ k) (h:1 ≤ n ∧ n < 1 + m):n - 1 < k:=nA (tE h) g
theorem tG {n m:Nat} (h:1 ≤ n ∧ n < 1 + m):n = n - 1 + 1:=(Nat.sub_add_cancel h.1).symm
theorem uA {n i:Nat} (h:n - i = 0) (g:i ≤ n):i = n:=Nat.le_antisymm g (Nat.le_of_sub_eq_zero h)
theorem uB {n i k:Nat} (h:n - i = k + 1):i < n:=Nat.sub_pos_iff_lt.mp (h ▸ Nat.succ_pos k)
theorem uC {n i k:Nat} (h:n - i = k + 1):n - (i + 1) = k:=by rw [Nat.sub_add_eq,h]; rfl
theorem uD {n i:Nat} (h:i < n):n - (i + 1) < n - i:=Nat.sub_lt_sub_left h (Nat.lt_succ_self i)
theorem uG {x y z w:Nat} (h:x ≤ y + z) (g:y ≤ w + 1):x ≤ w + (z + 1):=nB2 h (by rw [Nat.add_comm z,← Nat.add_assoc]; exact Nat.add_le_add_right g z)
theorem dA {a d:Nat} (h:a + 3 * (d + 1) < 900):a + 1 + 3 * d < 900:=by omega
theorem dB {a d:Nat} (h:a + 20 * (d + 1) < 8000):a + 3 + 20 * d < 8000:=by omega
theorem dC {a d:Nat} (h:a + 20 * (d + 1) < 8000):a + 1 + 20 * d < 8000:=Nat.lt_of_le_of_lt (Nat.add_le_add_right (Nat.add_le_add_left (by decide) a) _) (dB h)
theorem wA {a b c:Int} (h:a < b) (k:b ≤ c):a < c:=Int.lt_of_lt_of_le h k
theorem wB {a b c:Int} (h:a ≤ b) (k:b < c):a < c:=Int.lt_of_le_of_lt h k
set_option genCtorIdx true in
inductive V where
 | undef
 | none
 | bool (b:Bool)
 | int (i:Int)
 | str (x:Str)
 | tup (vs:List V)
 | lst (vs:List V)
 | set (ks:List Int)
 | blk (n:Nat)
 | dctT (es:List (List Int × V))
 | inst (c:Addr) (fs:List (Str × V))
 | obj (g:Bool) (c:Addr) (n:Nat)
 | ref (g:Bool) (n:Nat)
set_option genCtorIdx true in
inductive O where
 | dead
 | list (vs:List V)
 | dctI (es:List (Int × V))
 | dctT (es:List (List Int × V))
 | set (ks:List Int)
 | inst (fs:List (Str × V))
structure St where
 loc:List V
 tmp:List O
 heap:List O
structure Adrs where
 g:List Addr
 t:List Addr
noncomputable def Adrs.glob (R:Adrs):Adrs:=⟨R.g,[]⟩
noncomputable def Adrs.sel (R:Adrs) (b:Bool):List Addr:=cond b R.g R.t
structure Cx where
 prog:Program
 w:World
 s₀:Shared
 hb:Heap
 fr:Frag
 mg:Str -> Option Value
 mb:Str -> Option Value
noncomputable abbrev Cx.ik (c:Cx):=intKind c.prog c.w
noncomputable abbrev Cx.tk (c:Cx):=tupleKind (intKind c.prog c.w)
noncomputable abbrev seqO (T:String) (vs:List Value) (n:Nat):Obj:={ cls:=.type T,dict:=none,data:=.seq vs.toArray n,slots:=#[] }
noncomputable abbrev dicO (es:List DictEntry) (n:Nat):Obj:={ cls:=.type "dict",dict:=none,data:=.dict es.toArray n,slots:=#[] }
mutual
inductive VIn (c:Cx) (F:Heap) (R:Adrs):Value -> V -> Prop
 | none:VIn c F R .none .none
 | bool (b:Bool):VIn c F R (.bool b) (.bool b)
 | int (i:Int) (t:Tok):VIn c F R (.int i t) (.int i)
 | str (x:Str) (t:Tok):VIn c F R (.str x t) (.str x)
 | tup {a:Addr} {o:Obj} {cvs:List Value} {n:Nat} {vs:List V}:F.get? a = some o -> o.cls = .type "tuple" -> o.data = .seq cvs.toArray n -> VAll c F R cvs vs -> VIn c F R (.ref a) (.tup vs)
 | lst {a:Addr} {cvs:List Value} {n:Nat} {vs:List V}:F.get? a = some (seqO "list" cvs n) -> VAll c F R cvs vs -> VIn c F R (.ref a) (.lst vs)
 | set {a:Addr} {ks:List Int}:SetL c.prog c.w F a (fun k=>ks.contains k) ks.length -> VIn c F R (.ref a) (.set ks)
 | blk {a:Addr} {n:Nat}:SetX c.w F a n -> VIn c F R (.ref a) (.blk n)
 | dctT {a:Addr} {xs:List (List Int × Addr × Value)} {es:List (List Int × V)}:F.DictOfH c.tk a xs -> TAll c F R xs es -> VIn c F R (.ref a) (.dctT es)
 | inst {a d C:Addr} {es:List DictEntry} {n:Nat} {fs:List (Str × V)}:F.get? a = some (instObj C d) -> F.get? d = some (dicO es n) -> FAll c F R es fs -> (fs.map (·.1)).Nodup -> VIn c F R (.ref a) (.inst C fs)
 | obj {a d C:Addr} {g:Bool} {n:Nat}:F.get? a = some (instObj C d) -> (R.sel g)[n]? = some d -> VIn c F R (.ref a) (.obj g C n)
 | ref {a:Addr} {g:Bool} {n:Nat}:(R.sel g)[n]? = some a -> VIn c F R (.ref a) (.ref g n)
inductive VAll (c:Cx) (F:Heap) (R:Adrs):List Value -> List V -> Prop
 | nil:VAll c F R [] []
 | cons {cv:Value} {cvs:List Value} {v:V} {vs:List V}:VIn c F R cv v -> VAll c F R cvs vs -> VAll c F R (cv :: cvs) (v :: vs)
inductive FAll (c:Cx) (F:Heap) (R:Adrs):List DictEntry -> List (Str × V) -> Prop
 | nil:FAll c F R [] []
 | cons {h:Int} {x:Str} {t:Tok} {cv:Value} {es:List DictEntry} {v:V} {fs:List (Str × V)}:VIn c F R cv v -> FAll c F R es fs -> FAll c F R (⟨h,.str x t,cv⟩ :: es) ((x,v) :: fs)
inductive TAll (c:Cx) (F:Heap) (R:Adrs):List (List Int × Addr × Value) -> List (List Int × V) -> Prop
 | nil:TAll c F R [] []
 | cons {k:List Int} {a:Addr} {cv:Value} {xs:List (List Int × Addr × Value)} {v:V} {es:List (List Int × V)}:VIn c F R cv v -> TAll c F R xs es -> TAll c F R ((k,a,cv) :: xs) ((k,v) :: es)
end
inductive IAll (c:Cx) (F:Heap) (R:Adrs):List (Int × Value) -> List (Int × V) -> Prop
 | nil:IAll c F R [] []
 | cons {k:Int} {cv:Value} {xs:List (Int × Value)} {v:V} {es:List (Int × V)}:VIn c F R cv v -> IAll c F R xs es -> IAll c F R ((k,cv) :: xs) ((k,v) :: es)
noncomputable def VIn.Inv (c:Cx) (F:Heap) (R:Adrs) (cv:Value):V -> Prop
 | .none=>cv = .none
 | .bool b=>cv = .bool b
 | .int i=>∃ t,cv = .int i t
 | .str x=>∃ t,cv = .str x t
 | .tup vs=>Ex4 fun a o cvs n=>And5 (cv = .ref a) (F.get? a = some o) (o.cls = .type "tuple") (o.data = .seq cvs.toArray n) (VAll c F R cvs vs)
 | .lst vs=>Ex3 fun a cvs n=>And3 (cv = .ref a) (F.get? a = some (seqO "list" cvs n)) (VAll c F R cvs vs)
 | .set ks=>∃ a,cv = .ref a ∧ SetL c.prog c.w F a (fun k=>ks.contains k) ks.length
 | .blk n=>∃ a,cv = .ref a ∧ SetX c.w F a n
 | .dctT es=>Ex2 fun a xs=>And3 (cv = .ref a) (F.DictOfH c.tk a xs) (TAll c F R xs es)
 | .inst C fs=>Ex4 fun a d es n=>And5 (cv = .ref a) (F.get? a = some (instObj C d)) (F.get? d = some (dicO es n)) (FAll c F R es fs) ((fs.map (·.1)).Nodup)
 | .obj g C n=>Ex2 fun a d=>And3 (cv = .ref a) (F.get? a = some (instObj C d)) ((R.sel g)[n]? = some d)
 | .ref g n=>∃ a,cv = .ref a ∧ (R.sel g)[n]? = some a
 | _=>False
theorem VIn.inv {c:Cx} {F:Heap} {R:Adrs} {cv:Value} {v:V} (h:VIn c F R cv v):VIn.Inv c F R cv v:=by
 cases h with
 | none=>rfl
 | bool b=>rfl
 | int i t=>exact ⟨t,rfl⟩
 | str x t=>exact ⟨t,rfl⟩
 | tup h1 h2 h3 h4=>exact ⟨_,_,_,_,rfl,h1,h2,h3,h4⟩
 | lst h1 h2=>exact ⟨_,_,_,rfl,h1,h2⟩
 | set h=>exact ⟨_,rfl,h⟩
 | blk h=>exact ⟨_,rfl,h⟩
 | dctT h1 h2=>exact ⟨_,_,rfl,h1,h2⟩
 | inst h1 h2 h3 h4=>exact ⟨_,_,_,_,rfl,h1,h2,h3,h4⟩
 | obj h1 h2=>exact ⟨_,_,rfl,h1,h2⟩
 | ref h=>exact ⟨_,rfl,h⟩
theorem VAll.nil_inv {c:Cx} {F:Heap} {R:Adrs} {cvs:List Value} (h:VAll c F R cvs []):cvs = []:=by cases h; rfl
theorem VAll.inv {c:Cx} {F:Heap} {R:Adrs} {cvs:List Value} {v:V} {vs:List V} (h:VAll c F R cvs (v :: vs)):Ex2 fun cv dvs=>And3 (cvs = cv :: dvs) (VIn c F R cv v) (VAll c F R dvs vs):=by
 cases h with | cons h r=>exact ⟨_,_,rfl,h,r⟩
noncomputable def V.asInt (v:V):Option Int:=V.casesOn (motive_1:=fun _=>Option Int) v Option.none Option.none (fun _=>Option.none) some (fun _=>Option.none) (fun _=>Option.none) (fun _=>Option.none) (fun _=>Option.none) (fun _=>Option.none) (fun _=>Option.none) (fun _ _=>Option.none) (fun _ _ _=>Option.none) (fun _ _=>Option.none)
theorem asInt_in {c:Cx} {F:Heap} {R:Adrs} {cv:Value} {v:V} {i:Int} (h:VIn c F R cv v) (k:v.asInt = some i):∃ t,cv = .int i t:=by
 cases v with
 | int j=>cases k; exact h.inv
 | _=>exact none_some k
noncomputable def V.ok (v:V):Bool:=V.casesOn (motive_1:=fun _=>Bool) v false true (fun _=>true) (fun _=>true) (fun _=>true) (fun _=>true) (fun _=>true) (fun _=>true) (fun _=>true) (fun _=>true) (fun _ _=>true) (fun _ _ _=>true) (fun _ _=>true)
noncomputable def O.listed (o:O):Option (List V):=O.casesOn o none some (fun _=>none) (fun _=>none) (fun _=>none) fun _=>none
theorem O.listed_some {o:O} {vs:List V} (h:o.listed = some vs):o = .list vs:=by
 cases o with
 | list us=>exact congrArg O.list (Option.some.inj h)
 | _=>exact none_some h
noncomputable def O.asSet (o:O):Option (List Int):=O.casesOn o none (fun _=>none) (fun _=>none) (fun _=>none) some fun _=>none
theorem asSet_is {o:O} {ks:List Int} (h:o.asSet = some ks):o = .set ks:=by
 cases o with
 | set us=>exact congrArg O.set (Option.some.inj h)
 | _=>exact none_some h
noncomputable def O.live (o:O):Option O:=O.casesOn o none (fun _=>some o) (fun _=>some o) (fun _=>some o) (fun _=>some o) fun _=>some o
theorem live_is {o q:O} (h:o.live = some q):o = q ∧ q ≠ .dead:=by
 cases o with
 | dead=>exact none_some h
 | _=>cases h; exact ⟨rfl,fun e=>by cases e⟩
noncomputable def int2 {β:Type} (f:Int -> Int -> Option β) (a b:V):Option β:=a.asInt.bind fun x=>b.asInt.bind (f x)
theorem int2_in {c:Cx} {F:Heap} {R:Adrs} {β:Type} {f:Int -> Int -> Option β} {ca cb:Value} {a b:V} {r:β} (h:int2 f a b = some r) (ha:VIn c F R ca a) (hb:VIn c F R cb b):Ex4 fun x y t u=>And3 (f x y = some r) (ca = .int x t) (cb = .int y u):=by
 obtain ⟨x,hx,h2⟩:=Option.bind_eq_some_iff.mp h
 obtain ⟨y,hy,h3⟩:=Option.bind_eq_some_iff.mp h2
 obtain ⟨t,e⟩:=asInt_in ha hx
 obtain ⟨u,e2⟩:=asInt_in hb hy
 exact ⟨x,y,t,u,h3,e,e2⟩
theorem VAll.inv1 {c:Cx} {F:Heap} {R:Adrs} {cvs:List Value} {v:V} (h:VAll c F R cvs [v]):∃ cv,cvs = [cv] ∧ VIn c F R cv v:=by
 obtain ⟨cv,dvs,rfl,h1,h2⟩:=h.inv
 exact ⟨cv,congrArg (cv :: ·) h2.nil_inv,h1⟩
theorem VAll.inv2 {c:Cx} {F:Heap} {R:Adrs} {cvs:List Value} {v u:V} (h:VAll c F R cvs [v,u]):Ex2 fun cv cu=>And3 (cvs = [cv,cu]) (VIn c F R cv v) (VIn c F R cu u):=by
 obtain ⟨cv,dvs,rfl,h1,h2⟩:=h.inv
 obtain ⟨cu,rfl,h3⟩:=h2.inv1
 exact ⟨cv,cu,rfl,h1,h3⟩
structure Ext (K F:Heap) (R:Adrs) (F':Heap) (R':Adrs):Prop where
 f:F.StaysIn F'
 g:R.g <+: R'.g
 t:R.t <+: R'.t
 k:∀ a o,K.get? a = some o -> F'.get? a = F.get? a
theorem Ext.refl (K F:Heap) (R:Adrs):Ext K F R F R:=⟨fun _ _ e=>e,List.prefix_rfl,List.prefix_rfl,fun _ _ _=>rfl⟩
theorem Ext.trans {K F F' F'':Heap} {R R' R'':Adrs} (x:Ext K F R F' R') (y:Ext K F' R' F'' R''):Ext K F R F'' R'' :=
 ⟨fun a o e=>y.f a o (x.f a o e),x.g.trans y.g,x.t.trans y.t,fun a o h=>(y.k a o h).trans (x.k a o h)⟩
theorem Ext.sel {K F F':Heap} {R R':Adrs} (x:Ext K F R F' R') {g:Bool} {n:Nat} {a:Addr} (h:(R.sel g)[n]? = some a):(R'.sel g)[n]? = some a:=by
 cases g with
 | true=>obtain ⟨l,e⟩:=x.g; show R'.g[n]? = _; rw [← e]; exact (List.getElem?_append_left (List.getElem?_eq_some_iff.mp h).1).trans h
 | false=>obtain ⟨l,e⟩:=x.t; show R'.t[n]? = _; rw [← e]; exact (List.getElem?_append_left (List.getElem?_eq_some_iff.mp h).1).trans h
theorem tkey_stays {p:Program} {w:World} {F F':Heap} {a:Addr} {k:List Int} (h:(tupleKind (intKind p w)).is F k a) (s:F.StaysIn F'):(tupleKind (intKind p w)).is F' k a :=
 (by obtain ⟨o,i,n,ho,r⟩:=h; exact ⟨o,i,n,s _ _ ho,r⟩)
theorem dctT_stays {p:Program} {w:World} {F F':Heap} {a:Addr} {xs:List (List Int × Addr × Value)} (h:F.DictOfH (tupleKind (intKind p w)) a xs) (s:F.StaysIn F'):F'.DictOfH (tupleKind (intKind p w)) a xs :=
 (by obtain ⟨o,es,ep,ho,e1,e2,e3,e4,e5⟩:=h; exact ⟨o,es,ep,s _ _ ho,e1,e2,e3,fun x hx=>tkey_stays (e4 x hx) s,e5⟩)
section
variable {c:Cx} {K F F':Heap} {R R':Adrs}
theorem VIn.ext (x:Ext K F R F' R') {cv:Value} {v:V} (h:VIn c F R cv v):VIn c F' R' cv v :=
 VIn.rec (motive_1:=fun cv v _=>VIn c F' R' cv v) (motive_2:=fun cvs vs _=>VAll c F' R' cvs vs) (motive_3:=fun es fs _=>FAll c F' R' es fs) (motive_4:=fun xs es _=>TAll c F' R' xs es)
  .none .bool .int .str (fun h h2 h3 _ i=>.tup (x.f _ _ h) h2 h3 i) (fun h _ i=>.lst (x.f _ _ h) i) (fun h=>.set (h.keep fun o e=>x.f _ _ e)) (fun h=>.blk (h.keep fun o e=>x.f _ _ e)) (fun h _ i=>.dctT (dctT_stays h x.f) i)
  (fun h d _ n i=>.inst (x.f _ _ h) (x.f _ _ d) i n) (fun h r=>.obj (x.f _ _ h) (x.sel r)) (fun r=>.ref (x.sel r)) .nil (fun _ _ i j=>.cons i j) .nil (fun _ _ i j=>.cons i j) .nil (fun _ _ i j=>.cons i j) h
theorem VAll.ind {P:∀ (x:List Value) (y:List V),VAll c F R x y -> Prop} (n:P [] [] .nil) (k:∀ {cv cvs v vs},(h:VIn c F R cv v) -> (r:VAll c F R cvs vs) -> P cvs vs r -> P (cv :: cvs) (v :: vs) (.cons h r)) {cvs:List Value} {vs:List V} (h:VAll c F R cvs vs):P cvs vs h :=
 VAll.rec (motive_1:=fun _ _ _=>True) (motive_2:=fun cvs vs h=>P cvs vs h) (motive_3:=fun _ _ _=>True) (motive_4:=fun _ _ _=>True) trivial (fun _=>trivial) (fun _ _=>trivial) (fun _ _=>trivial) (fun _ _ _ _ _=>trivial) (fun _ _ _=>trivial) (fun _=>trivial) (fun _=>trivial)
  (fun _ _ _=>trivial) (fun _ _ _ _ _=>trivial) (fun _ _=>trivial) (fun _=>trivial) n (fun a b _ i=>k a b i) trivial (fun _ _ _ _=>trivial) trivial (fun _ _ _ _=>trivial) h
theorem FAll.ind {P:∀ (x:List DictEntry) (y:List (Str × V)),FAll c F R x y -> Prop} (n:P [] [] .nil) (k:∀ {hh x t cv es v fs},(h:VIn c F R cv v) -> (r:FAll c F R es fs) -> P es fs r -> P (⟨hh,.str x t,cv⟩ :: es) ((x,v) :: fs) (.cons h r)) {es:List DictEntry} {fs:List (Str × V)} (h:FAll c F R es fs):P es fs h :=
 FAll.rec (motive_1:=fun _ _ _=>True) (motive_2:=fun _ _ _=>True) (motive_3:=fun cvs vs h=>P cvs vs h) (motive_4:=fun _ _ _=>True) trivial (fun _=>trivial) (fun _ _=>trivial) (fun _ _=>trivial) (fun _ _ _ _ _=>trivial) (fun _ _ _=>trivial) (fun _=>trivial) (fun _=>trivial)
  (fun _ _ _=>trivial) (fun _ _ _ _ _=>trivial) (fun _ _=>trivial) (fun _=>trivial) trivial (fun _ _ _ _=>trivial) n (fun a b _ i=>k a b i) trivial (fun _ _ _ _=>trivial) h
theorem TAll.ind {P:∀ (x:List (List Int × Addr × Value)) (y:List (List Int × V)),TAll c F R x y -> Prop} (n:P [] [] .nil) (k:∀ {kk a cv xs v es},(h:VIn c F R cv v) -> (r:TAll c F R xs es) -> P xs es r -> P ((kk,a,cv) :: xs) ((kk,v) :: es) (.cons h r)) {xs:List (List Int × Addr × Value)} {es:List (List Int × V)} (h:TAll c F R xs es):P xs es h :=
 TAll.rec (motive_1:=fun _ _ _=>True) (motive_2:=fun _ _ _=>True) (motive_3:=fun _ _ _=>True) (motive_4:=fun cvs vs h=>P cvs vs h) trivial (fun _=>trivial) (fun _ _=>trivial) (fun _ _=>trivial) (fun _ _ _ _ _=>trivial) (fun _ _ _=>trivial) (fun _=>trivial) (fun _=>trivial)
  (fun _ _ _=>trivial) (fun _ _ _ _ _=>trivial) (fun _ _=>trivial) (fun _=>trivial) trivial (fun _ _ _ _=>trivial) trivial (fun _ _ _ _=>trivial) n (fun a b _ i=>k a b i) h
theorem VAll.ext (x:Ext K F R F' R') {cvs:List Value} {vs:List V} (h:VAll c F R cvs vs):VAll c F' R' cvs vs:=VAll.ind (P:=fun a b _=>VAll c F' R' a b) .nil (fun h _ i=>.cons (h.ext x) i) h
theorem FAll.ext (x:Ext K F R F' R') {es:List DictEntry} {fs:List (Str × V)} (h:FAll c F R es fs):FAll c F' R' es fs:=FAll.ind (P:=fun a b _=>FAll c F' R' a b) .nil (fun h _ i=>.cons (h.ext x) i) h
theorem TAll.ext (x:Ext K F R F' R') {xs:List (List Int × Addr × Value)} {es:List (List Int × V)} (h:TAll c F R xs es):TAll c F' R' xs es:=TAll.ind (P:=fun a b _=>TAll c F' R' a b) .nil (fun h _ i=>.cons (h.ext x) i) h
theorem IAll.ext (x:Ext K F R F' R') {xs:List (Int × Value)} {es:List (Int × V)} (h:IAll c F R xs es):IAll c F' R' xs es:=by
 induction h with
 | nil=>exact .nil
 | cons h _ ih=>exact .cons (h.ext x) ih
theorem VAll.length {cvs:List Value} {vs:List V} (h:VAll c F R cvs vs):cvs.length = vs.length:=by
 induction h using VAll.ind with
 | n=>rfl
 | k _ _ ih=>exact congrArg Nat.succ ih
theorem VAll.append {cvs dvs:List Value} {vs ws:List V} (h:VAll c F R cvs vs) (k:VAll c F R dvs ws):VAll c F R (cvs ++ dvs) (vs ++ ws):=by
 induction h using VAll.ind with
 | n=>exact k
 | k h _ ih=>exact .cons h ih
theorem VAll.get {cvs:List Value} {vs:List V} (h:VAll c F R cvs vs) {k:Nat} {v:V} (hk:vs[k]? = some v):∃ cv,cvs[k]? = some cv ∧ VIn c F R cv v:=by
 induction h using VAll.ind generalizing k with
 | n=>exact none_some hk
 | k h _ ih =>
  cases k with
  | zero=>exact ⟨_,rfl,Option.some.inj hk ▸ h⟩
  | succ k=>exact ih hk
theorem VAll.getNone {cvs:List Value} {vs:List V} (h:VAll c F R cvs vs) {k:Nat} (hk:vs[k]? = none):cvs[k]? = none:=by
 rw [List.getElem?_eq_none_iff] at hk ⊢; rw [h.length]; exact hk
theorem VAll.one {cv:Value} {v:V} (h:VIn c F R cv v):VAll c F R [cv] [v]:=.cons h .nil
theorem VAll.set {cvs:List Value} {vs:List V} (h:VAll c F R cvs vs) {cv:Value} {v:V} (hv:VIn c F R cv v) (k:Nat):VAll c F R (cvs.set k cv) (vs.set k v):=by
 induction h using VAll.ind generalizing k with
 | n=>exact .nil
 | k h r ih=>cases k with
  | zero=>exact .cons hv r
  | succ k=>exact .cons h (ih k)
theorem VAll.slice {cvs:List Value} {vs:List V} (h:VAll c F R cvs vs):∀ (k:Nat),VAll c F R (cvs.drop k) (vs.drop k):=by
 induction h using VAll.ind with
 | n=>intro k; rw [List.drop_nil,List.drop_nil]; exact .nil
 | k h r ih=>exact fun k=>match k with
  | 0=>.cons h r
  | k + 1=>ih k
theorem VAll.take {cvs:List Value} {vs:List V} (h:VAll c F R cvs vs):∀ (k:Nat),VAll c F R (cvs.take k) (vs.take k):=by
 induction h using VAll.ind with
 | n=>intro k; rw [List.take_nil,List.take_nil]; exact .nil
 | k h r ih=>exact fun k=>match k with
  | 0=>.nil
  | k + 1=>.cons h (ih k)
end
mutual
noncomputable def V.clean:V -> Bool
 | .undef=>false
 | .none=>true
 | .bool _=>true
 | .int _=>true
 | .str _=>true
 | .tup vs=>cleanL vs
 | .lst vs=>cleanL vs
 | .set _=>true
 | .blk _=>true
 | .dctT es=>cleanT es
 | .inst _ fs=>cleanF fs
 | .obj g _ _=>g
 | .ref g _=>g
noncomputable def cleanL:List V -> Bool
 | []=>true
 | v :: vs=>v.clean && cleanL vs
noncomputable def cleanT:List (List Int × V) -> Bool
 | []=>true
 | (_,v) :: vs=>v.clean && cleanT vs
noncomputable def cleanF:List (Str × V) -> Bool
 | []=>true
 | (_,v) :: vs=>v.clean && cleanF vs
end
theorem cL_cons (v:V) (vs:List V):cleanL (v :: vs) = (v.clean && cleanL vs):=rfl
theorem clL_cons {v:V} {vs:List V} (h:v.clean = true) (k:cleanL vs = true):cleanL (v :: vs) = true:=by
 rw [cL_cons,h,k]; rfl
section
variable {c:Cx} {F:Heap} {R:Adrs}
theorem clean_sel {g:Bool} {n:Nat} {a:Addr} (h:(R.sel g)[n]? = some a) (hg:g = true):(R.glob.sel g)[n]? = some a:=by subst hg; exact h
theorem and_split {a b:Bool} (h:(a && b) = true):a = true ∧ b = true:=by rwa [Bool.and_eq_true] at h
theorem VIn.glob {cv:Value} {v:V} (h:VIn c F R cv v):v.clean = true -> VIn c F R.glob cv v :=
 VIn.rec (motive_1:=fun cv v _=>v.clean = true -> VIn c F R.glob cv v) (motive_2:=fun cvs vs _=>cleanL vs = true -> VAll c F R.glob cvs vs) (motive_3:=fun es fs _=>cleanF fs = true -> FAll c F R.glob es fs) (motive_4:=fun xs es _=>cleanT es = true -> TAll c F R.glob xs es)
  (fun _=>.none) (fun b _=>.bool b) (fun i t _=>.int i t) (fun s t _=>.str s t) (fun h h2 h3 _ i k=>.tup h h2 h3 (i k)) (fun h _ i k=>.lst h (i k)) (fun h _=>.set h) (fun h _=>.blk h) (fun h _ i k=>.dctT h (i k)) (fun h d _ n i k=>.inst h d (i k) n)
  (fun h r k=>.obj h (clean_sel r k)) (fun r k=>.ref (clean_sel r k)) (fun _=>.nil) (fun _ _ i j k=>.cons (i (and_split k).1) (j (and_split k).2)) (fun _=>.nil) (fun _ _ i j k=>.cons (i (and_split k).1) (j (and_split k).2)) (fun _=>.nil) (fun _ _ i j k=>.cons (i (and_split k).1) (j (and_split k).2)) h
theorem VAll.glob {cvs:List Value} {vs:List V} (h:VAll c F R cvs vs):cleanL vs = true -> VAll c F R.glob cvs vs:=VAll.ind (P:=fun cvs vs _=>cleanL vs = true -> VAll c F R.glob cvs vs) (fun _=>.nil) (fun h _ i k=>.cons (h.glob (and_split k).1) (i (and_split k).2)) h
theorem Ext.globbed {K F F':Heap} {R R':Adrs} (x:Ext K F R F' R'):Ext K F R.glob F' R'.glob:=⟨x.f,x.g,List.prefix_rfl,x.k⟩
theorem Ext.ofGlob (K F:Heap) (R:Adrs):Ext K F R.glob F R:=⟨fun _ _ e=>e,List.prefix_rfl,List.nil_prefix,fun _ _ _=>rfl⟩
end
noncomputable def HIn (c:Cx) (F:Heap) (R:Adrs) (h:Heap) (a:Addr):O -> Prop
 | .dead=>True
 | .list vs=>Ex2 fun cvs n=>h.get? a = some (seqO "list" cvs n) ∧ VAll c F R cvs vs
 | .dctI es=>∃ xs,h.DictOf c.ik a xs ∧ IAll c F R xs es
 | .dctT es=>Ex4 fun xs o des ep=>And7 (h.get? a = some o) o.ExactDict (o.data = .dict des ep) (des.toList = xs.map (entryOfKey c.tk)) (∀ x ∈ xs,c.tk.is F x.1 x.2.1) ((xs.map (·.1)).Nodup) (TAll c F R xs es)
 | .set ks=>SetL c.prog c.w h a (fun k=>ks.contains k) ks.length
 | .inst fs=>Ex2 fun es n=>And3 (h.get? a = some (dicO es n)) (FAll c F R es fs) ((fs.map (·.1)).Nodup)
theorem HIn.frame {c:Cx} {K F F' h h':Heap} {R R':Adrs} {a:Addr} {o:O} (x:HIn c F R h a o) (e:Ext K F R F' R') (k:∀ q,h.get? a = some q -> h'.get? a = some q):HIn c F' R' h' a o:=by
 cases o with
 | dead=>trivial
 | list vs=>obtain ⟨cvs,n,h1,h2⟩:=x; exact ⟨cvs,n,k _ h1,h2.ext e⟩
 | dctI es=>obtain ⟨xs,⟨o,q,ep,h1,r⟩,h2⟩:=x; exact ⟨xs,⟨o,q,ep,k _ h1,r⟩,h2.ext e⟩
 | dctT es=>obtain ⟨xs,o,des,ep,h1,h2,h3,h4,h5,h6,h7⟩:=x; exact ⟨xs,o,des,ep,k _ h1,h2,h3,h4,fun y hy=>tkey_stays (h5 y hy) e.f,h6,h7.ext e⟩
 | set ks=>obtain ⟨o,es,ep,t,h1,r⟩:=x; exact ⟨o,es,ep,t,k _ h1,r⟩
 | inst fs=>obtain ⟨es,n,h1,h2,h3⟩:=x; exact ⟨es,n,k _ h1,h2.ext e,h3⟩
noncomputable def St.sel (σ:St) (b:Bool):List O:=cond b σ.heap σ.tmp
noncomputable def St.put (σ:St) (b:Bool) (n:Nat) (o:O):St:=if b then { σ with heap:=σ.heap.set n o } else { σ with tmp:=σ.tmp.set n o }
noncomputable def Live (R:Adrs) (H:Bool -> List O) (g:Bool) (n:Nat) (a:Addr) (o:O):Prop:=(R.sel g)[n]? = some a ∧ (H g)[n]? = some o ∧ o ≠ .dead
structure Store (c:Cx) (K F:Heap) (R:Adrs) (H:Bool -> List O) (s:Shared):Prop where
 reach:∃ h tk,s = { c.s₀ with heap:=h,toks:=tk }
 base:c.hb.StaysIn K
 hK:K.StaysIn s.heap
 hF:F.StaysIn s.heap
 dis:∀ a o,K.get? a = some o -> F.get? a = none
 len:∀ g,(R.sel g).length = (H g).length
 apart:∀ g n a o g' n' o',Live R H g n a o -> Live R H g' n' a o' -> g = g' ∧ n = n'
 own:∀ g n a o,Live R H g n a o -> K.get? a = none ∧ F.get? a = none ∧ HIn c F (cond g R.glob R) s.heap a o
structure EnvOK (env:Env):Prop where
 kind:env.scope.kind = .function
 glo:env.globals = mainGlobals
 blt:env.builtins = builtinsNs
 nd:(env.scope.names.map (·.1)).Nodup
 dbg:∀ x ∈ env.scope.names,(x.1 == ("__debug__" : Str)) = false ∧ (x.1 == ("__classdict__" : Str)) = false
 apart:env.cells.Pairwise fun x y=>x.2 ≠ y.2
 cl:∀ (x:Str) (a:Addr),env.cells.lookup x = some a -> ∃ i:Nat,env.scope.names[i]? = some (x,NameKind.cell) ∨ env.scope.names[i]? = some (x,NameKind.free)
structure Sim (c:Cx) (env:Env) (K F:Heap) (R:Adrs) (σ:St) (s:Shared):Prop where
 st:Store c K F R σ.sel s
 lK:K.get? env.locals = none
 lF:F.get? env.locals = none
 lR:∀ g n a o,Live R σ.sel g n a o -> a ≠ env.locals
 ns:∃ m,s.heap.Ns env.locals m ∧ ∀ (i:Nat) (x:Str) (v:V),env.scope.names[i]? = some (x,.local) -> σ.loc[i]? = some v -> v ≠ .undef -> ∃ cv,m x = some cv ∧ VIn c F R cv v
 cell:∀ (i:Nat) (x:Str),env.scope.names[i]? = some (x,.cell) -> Ex2 fun (a:Addr) (q:Option Value)=>And7 (env.cells.lookup x = some a) (s.heap.IsCell a q) (env.func ≠ none -> K.get? a = none) (F.get? a = none) (a ≠ env.locals)
  (∀ g n b o,Live R σ.sel g n b o -> b ≠ a) (∀ v,σ.loc[i]? = some v -> v ≠ .undef -> ∃ cv,q = some cv ∧ VIn c F R cv v)
 free:∀ (i:Nat) (x:Str),env.scope.names[i]? = some (x,.free) -> Ex2 fun (a:Addr) (cv:Value)=>And3 (env.cells.lookup x = some a) (K.IsCell a (some cv)) (∀ v,σ.loc[i]? = some v -> v ≠ .undef -> VIn c F R cv v)
section
variable {c:Cx} {env:Env} {K F:Heap} {R:Adrs} {σ:St} {s:Shared} {C:Prop}
theorem Sim.cellE (S:Sim c env K F R σ s) (i:Nat) (x:Str) (e:env.scope.names[i]? = some (x,.cell)) (k:∀ (a:Addr) (q:Option Value),env.cells.lookup x = some a -> s.heap.IsCell a q -> (env.func ≠ none -> K.get? a = none) -> F.get? a = none -> a ≠ env.locals ->
  (∀ g n b o,Live R σ.sel g n b o -> b ≠ a) -> (∀ v,σ.loc[i]? = some v -> v ≠ .undef -> ∃ cv,q = some cv ∧ VIn c F R cv v) -> C):C:=by
 obtain ⟨a,q,h1,h2,h3,h4,h5,h6,h7⟩:=S.cell i x e
 exact k a q h1 h2 h3 h4 h5 h6 h7
theorem Sim.freeE (S:Sim c env K F R σ s) (i:Nat) (x:Str) (e:env.scope.names[i]? = some (x,.free)) (k:∀ (a:Addr) (cv:Value),env.cells.lookup x = some a -> K.IsCell a (some cv) -> (∀ v,σ.loc[i]? = some v -> v ≠ .undef -> VIn c F R cv v) -> C):C:=by
 obtain ⟨a,q,h1,h2,h3⟩:=S.free i x e
 exact k a q h1 h2 h3
theorem Sim.nsE (S:Sim c env K F R σ s) (k:∀ m,s.heap.Ns env.locals m -> (∀ (i:Nat) (x:Str) (v:V),env.scope.names[i]? = some (x,.local) -> σ.loc[i]? = some v -> v ≠ .undef -> ∃ cv,m x = some cv ∧ VIn c F R cv v) -> C):C:=by
 obtain ⟨m,h1,h2⟩:=S.ns
 exact k m h1 h2
theorem Store.ownE {H:Bool -> List O} (S:Store c K F R H s) (g:Bool) (n:Nat) (a:Addr) (o:O) (L:Live R H g n a o) (k:K.get? a = none -> F.get? a = none -> HIn c F (cond g R.glob R) s.heap a o -> C):C:=k (S.own g n a o L).1 (S.own g n a o L).2.1 (S.own g n a o L).2.2
end
noncomputable def GoodA (A:Around) (d:Nat):Prop:=A.handled = none ∧ A.depth + 3 * d < 900 ∧ A.units + 20 * d < 8000
noncomputable abbrev AM (α:Type):=StateT St Option α
theorem AM.bind_some {α β:Type} {m:AM α} {f:α -> AM β} {σ:St} {r:β × St}:(m >>= f) σ = some r ↔ Ex2 fun a σ₁=>m σ = some (a,σ₁) ∧ f a σ₁ = some r:=by
 show (m σ >>= fun p=>f p.1 p.2) = some r ↔ _
 cases h:m σ with
 | none=>exact ⟨fun e=>(none_some e),fun q1_=>by obtain ⟨_,_,e,_⟩:=q1_; exact (none_some e)⟩
 | some p=>exact ⟨fun e=>⟨p.1,p.2,rfl,e⟩,fun q1_=>by obtain ⟨a,σ₁,e,k⟩:=q1_; exact (by cases e; exact k)⟩
theorem AM.bind_elim {α β:Type} {m:AM α} {f:α -> AM β} {σ:St} {r:β × St} {C:Prop} (k:∀ a σ₁,m σ = some (a,σ₁) -> f a σ₁ = some r -> C) (h:(m >>= f) σ = some r):C:=by
 obtain ⟨a,σ₁,e,h⟩:=AM.bind_some.mp h
 exact k a σ₁ e h
theorem AM.pure_some {α:Type} {a b:α} {σ σ':St} (h:(pure a:AM α) σ = some (b,σ')):b = a ∧ σ' = σ:=by cases h; exact ⟨rfl,rfl⟩
noncomputable abbrev NoE:Value -> Shared -> Prop:=fun _ _=>False
noncomputable abbrev Post {α β:Type} (rel:Heap -> Adrs -> α -> β -> Prop) (c:Cx) (env:Env) (K F:Heap) (R:Adrs) (σ:St) (b:β):α -> Shared -> Prop:=fun a s=>Ex2 fun F' R'=>And3 (Ext K F R F' R') (Sim c env K F' R' σ s) (rel F' R' a b)
noncomputable abbrev PostU {α:Type} (c:Cx) (env:Env) (K F:Heap) (R:Adrs) (σ:St):α -> Shared -> Prop:=fun _ s=>Ex2 fun F' R'=>Ext K F R F' R' ∧ Sim c env K F' R' σ s
structure Ref {α β:Type} (rel:Heap -> Adrs -> α -> β -> Prop) (c:Cx) (d:Nat) (env:Env) (t:Sem α) (m:AM β):Prop where
 run:∀ A,GoodA A d -> ∀ K F R σ s,Sim c env K F R σ s -> ∀ b σ',m σ = some (b,σ') ->
  wpAny (model c.prog c.w) A t (Post rel c env K F R σ' b) NoE s
noncomputable abbrev RE (c:Cx):=Ref (VIn c) c
noncomputable abbrev RB (c:Cx):=Ref (fun _ _ a b=>a = b:Heap -> Adrs -> Bool -> Bool -> Prop) c
theorem Ref.go {α β:Type} {rel:Heap -> Adrs -> α -> β -> Prop} {c:Cx} {d:Nat} {env:Env} {t:Sem α} {m:AM β} (h:Ref rel c d env t m) {A:Around} (gA:GoodA A d) {K F:Heap} {R:Adrs} {σ σ':St} {s:Shared} {b:β}
  {Q:α -> Shared -> Prop} {E:Value -> Shared -> Prop} (S:Sim c env K F R σ s) (e:m σ = some (b,σ')) (k:∀ a F' R' s',Ext K F R F' R' -> Sim c env K F' R' σ' s' -> rel F' R' a b -> Q a s'):wpAny (model c.prog c.w) A t Q E s :=
 wpAny_mono (h.run A gA K F R σ s S b σ' e) (fun a s' q1_=>by obtain ⟨F',R',x,S',r⟩:=q1_; exact k a F' R' s' x S' r) fun _ _ x=>x.elim
theorem Sim.tok {c:Cx} {env:Env} {K F:Heap} {R:Adrs} {σ:St} {s:Shared} (S:Sim c env K F R σ s) (t:Nat):Sim c env K F R σ { s with toks:=t } :=
 ⟨⟨(by obtain ⟨h,_,e⟩:=S.st.reach; exact ⟨h,t,by rw [e]⟩),S.st.base,S.st.hK,S.st.hF,S.st.dis,S.st.len,S.st.apart,S.st.own⟩,S.lK,S.lF,S.lR,S.ns,S.cell,S.free⟩
noncomputable def keepOnly (h:Heap) (p:Addr -> Bool):Heap:=hideAll h ((List.range h.objs.size).filter fun a=>!p a)
theorem keepOnly_yes {h:Heap} {p:Addr -> Bool} {a:Addr} (hp:p a = true):(keepOnly h p).get? a = h.get? a:=by
 cases e:h.get? a with
 | none =>
  cases q:(keepOnly h p).get? a with
  | none=>rfl
  | some o=>rw [of_hideAll _ q] at e; cases e
 | some o=>exact hideAll_get _ e (by rw [List.mem_filter]; rintro ⟨_,k⟩; rw [hp] at k; cases k)
theorem keepOnly_no {h:Heap} {p:Addr -> Bool} {a:Addr} (hp:p a = false):(keepOnly h p).get? a = none:=by
 cases e:h.get? a with
 | none =>
  cases q:(keepOnly h p).get? a with
  | none=>rfl
  | some o=>rw [of_hideAll _ q] at e; cases e
 | some o=>exact hideAll_none _ (List.mem_filter.mpr ⟨List.mem_range.mpr (Heap.lt_size e),by rw [hp]; rfl⟩)
theorem keepOnly_of {h:Heap} {p:Addr -> Bool} {a:Addr} {o:Obj} (e:(keepOnly h p).get? a = some o):h.get? a = some o ∧ p a = true:=by
 cases q:p a with
 | true=>rw [keepOnly_yes q] at e; exact ⟨e,rfl⟩
 | false=>rw [keepOnly_no q] at e; exact none_some e
theorem HIn.some {c:Cx} {F h:Heap} {R:Adrs} {a:Addr} {o:O} (x:HIn c F R h a o) (d:o ≠ .dead):∃ q,h.get? a = some q:=by
 cases o with
 | dead=>exact absurd rfl d
 | list vs=>obtain ⟨_,_,g,_⟩:=x; exact ⟨_,g⟩
 | dctI es=>obtain ⟨_,⟨_,_,_,g,_⟩,_⟩:=x; exact ⟨_,g⟩
 | dctT es=>obtain ⟨_,_,_,_,g,_⟩:=x; exact ⟨_,g⟩
 | set ks=>obtain ⟨_,_,_,_,g,_⟩:=x; exact ⟨_,g⟩
 | inst fs=>obtain ⟨_,_,g,_⟩:=x; exact ⟨_,g⟩
section
variable {c:Cx} {env:Env} {K F:Heap} {R:Adrs} {σ:St} {H:Bool -> List O} {s:Shared}
theorem Store.up {h':Heap} {tk:Nat} (S:Store c K F R H s) (hk:s.heap.StaysIn h'):Store c K F R H { s with heap:=h',toks:=tk } where
 reach:=(by obtain ⟨_,_,e⟩:=S.reach; exact ⟨h',tk,by rw [e]⟩)
 base:=S.base
 hK:=fun a o e=>hk a o (S.hK a o e)
 hF:=fun a o e=>hk a o (S.hF a o e)
 dis:=S.dis
 len:=S.len
 apart:=S.apart
 own:=fun g n a o l=>(by obtain ⟨x,y,z⟩:=S.own g n a o l; exact ⟨x,y,z.frame (Ext.refl K F _) fun q hq=>hk a q hq⟩)
theorem Store.freeze (S:Store c K F R H s) (P:Addr -> Bool) (hP:∀ a,P a = true -> K.get? a = none ∧ ∀ g n o,¬ Live R H g n a o) :
  ∃ F',And4 (Ext K F R F' R) (∀ a,P a = true -> F'.get? a = s.heap.get? a) (∀ a o,F'.get? a = some o -> F.get? a = some o ∨ P a = true) (Store c K F' R H s):=by
 have hy:∀ a o,F.get? a = some o -> (keepOnly s.heap fun a=>(F.get? a).isSome || P a).get? a = some o:=fun a o e=>by
  rw [keepOnly_yes (by rw [e]; rfl)]; exact S.hF a o e
 have hx:Ext K F R (keepOnly s.heap fun a=>(F.get? a).isSome || P a) R:=⟨hy,List.prefix_rfl,List.prefix_rfl,fun a o e=>by
  cases q:F.get? a with
  | some o'=>exact hy a o' q
  | none =>
   refine keepOnly_no ?_
   rw [q]
   cases z:P a with
   | false=>rfl
   | true=>have:=(hP a z).1; rw [e] at this; cases this⟩
 refine ⟨_,hx,fun a e=>keepOnly_yes (by rw [e,Bool.or_true]),fun a o e=>?_,⟨S.reach,S.base,S.hK,fun a o e=>(keepOnly_of e).1,fun a o e=>(hx.k a o e).trans (S.dis a o e),S.len,S.apart,fun g n a o l=>?_⟩⟩
 ·have:=(keepOnly_of e).2
  rcases Bool.or_eq_true_iff.mp this with q | q
  ·obtain ⟨o',q'⟩:=Option.isSome_iff_exists.mp q
   left
   rw [q',← (keepOnly_of e).1,S.hF a o' q']
  ·exact .inr q
 ·obtain ⟨x,y,z⟩:=S.own g n a o l
  refine ⟨x,keepOnly_no ?_,z.frame (K:=K) (by cases g; exact hx; exact hx.globbed) fun q hq=>hq⟩
  rw [y]
  cases q:P a with
  | false=>rfl
  | true=>exact absurd l ((hP a q).2 g n o)
theorem live_set {g:Bool} {n:Nat} {o':O} {H':Bool -> List O} (hg:H' g = (H g).set n o') (hg':H' (!g) = H (!g)) {b:Bool} {m:Nat} {x:Addr} {q:O} (l:Live R H' b m x q):(b = g ∧ m = n ∧ q = o') ∨ (¬(b = g ∧ m = n) ∧ Live R H b m x q):=by
 obtain ⟨e,e',d⟩:=l
 by_cases hb:b = g
 ·subst hb
  rw [hg] at e'
  by_cases hm:n = m
  ·subst hm
   rw [List.getElem?_set] at e'
   simp at e'
   exact .inl ⟨rfl,rfl,e'.2.symm⟩
  ·exact .inr ⟨fun z=>hm z.2.symm,e,by rwa [List.getElem?_set_ne hm] at e',d⟩
 ·have:b = !g:=by cases b <;> cases g <;> simp_all
  subst this
  exact .inr ⟨fun z=>hb z.1,e,by rwa [hg'] at e',d⟩
theorem len_set {g:Bool} {n:Nat} {o':O} {H':Bool -> List O} (hg:H' g = (H g).set n o') (hg':H' (!g) = H (!g)) (b:Bool):(H' b).length = (H b).length:=by
 by_cases hb:b = g
 ·subst hb; rw [hg,List.length_set]
 ·have:b = !g:=by cases b <;> cases g <;> simp_all
  rw [this,hg']
theorem Store.setOwn {h':Heap} {tk:Nat} {g:Bool} {n:Nat} {a:Addr} {o o':O} {H':Bool -> List O} (S:Store c K F R H s) (l:Live R H g n a o)
  (hs:Heap.SameBut a s.heap h') (hi:HIn c F (cond g R.glob R) h' a o') (hg:H' g = (H g).set n o') (hg':H' (!g) = H (!g)):Store c K F R H' { s with heap:=h',toks:=tk }:=by
 have W:=S.own g n a o l
 refine ⟨(by obtain ⟨_,_,e⟩:=S.reach; exact ⟨h',tk,by rw [e]⟩),S.base,fun b q e=>?_,fun b q e=>?_,S.dis,fun b=>(S.len b).trans (len_set hg hg' b).symm,fun b m x q b' m' q' l1 l2=>?_,fun b m x q l1=>?_⟩
 ·rw [hs.2 b (fun z=>by rw [z,W.1] at e; cases e)]; exact S.hK b q e
 ·rw [hs.2 b (fun z=>by rw [z,W.2.1] at e; cases e)]; exact S.hF b q e
 ·skip
  rcases live_set hg hg' l1 with ⟨rfl,rfl,rfl⟩ | ⟨n1,k1⟩ <;> rcases live_set hg hg' l2 with ⟨rfl,rfl,rfl⟩ | ⟨n2,k2⟩
  ·skip
   exact ⟨rfl,rfl⟩
  ·have:x = a:=Option.some.inj (l1.1.symm.trans l.1)
   subst this
   exact S.apart _ _ _ _ _ _ _ l k2
  ·have:x = a:=Option.some.inj (l2.1.symm.trans l.1)
   subst this
   exact S.apart _ _ _ _ _ _ _ k1 l
  ·skip
   exact S.apart _ _ _ _ _ _ _ k1 k2
 ·refine hG9 fun P_ b_=>?_
  rcases live_set hg hg' l1 with ⟨rfl,rfl,rfl⟩ | ⟨n1,k1⟩
  ·have:x = a:=Option.some.inj (l1.1.symm.trans l.1)
   subst this
   refine b_ ?_; clear b_ P_
   exact ⟨W.1,W.2.1,hi⟩
  ·have hx:x ≠ a:=fun z=>n1 (by subst z; obtain ⟨h1,h2⟩:=S.apart _ _ _ _ _ _ _ k1 l; exact ⟨h1,h2⟩)
   obtain ⟨y1,y2,y3⟩:=S.own b m x q k1
   refine b_ ?_; clear b_ P_
   exact ⟨y1,y2,y3.frame (Ext.refl K F _) fun z hz=>(hs.2 x hx).trans hz⟩
theorem Store.but {h':Heap} {tk:Nat} {a:Addr} (S:Store c K F R H s) (hs:Heap.ExtBut a s.heap h') (hK:K.get? a = none) (hF:F.get? a = none) (hn:∀ g n b o,Live R H g n b o -> b ≠ a):Store c K F R H { s with heap:=h',toks:=tk } where
 reach:=(by obtain ⟨_,_,e⟩:=S.reach; exact ⟨h',tk,by rw [e]⟩)
 base:=S.base
 hK:=fun b o e=>hs b o (fun z=>by rw [z,hK] at e; cases e) (S.hK b o e)
 hF:=fun b o e=>hs b o (fun z=>by rw [z,hF] at e; cases e) (S.hF b o e)
 dis:=S.dis
 len:=S.len
 apart:=S.apart
 own:=fun g n b o l=>(by obtain ⟨x,y,z⟩:=S.own g n b o l; exact ⟨x,y,z.frame (Ext.refl K F _) fun q hq=>hs b q (hn g n b o l) hq⟩)
theorem live_kill {g:Bool} {n:Nat} {H':Bool -> List O} (hg:H' g = (H g).set n .dead) (hg':H' (!g) = H (!g)) {b:Bool} {m:Nat} {x:Addr} {q:O} (l:Live R H' b m x q):Live R H b m x q:=by
 rcases live_set hg hg' l with ⟨_,_,h⟩ | ⟨_,k⟩
 ·exact absurd h l.2.2
 ·exact k
theorem Store.kill {g:Bool} {n:Nat} {H':Bool -> List O} (S:Store c K F R H s) (hg:H' g = (H g).set n .dead) (hg':H' (!g) = H (!g)):Store c K F R H' s :=
 ⟨S.reach,S.base,S.hK,S.hF,S.dis,fun b=>(S.len b).trans (len_set hg hg' b).symm,fun b m x q b' m' q' l1 l2=>S.apart b m x q b' m' q' (live_kill hg hg' l1) (live_kill hg hg' l2),fun b m x q l=>S.own b m x q (live_kill hg hg' l)⟩
noncomputable def Adrs.add (R:Adrs) (g:Bool) (a:Addr):Adrs:=cond g ⟨R.g ++ [a],R.t⟩ ⟨R.g,R.t ++ [a]⟩
theorem Adrs.add_self (R:Adrs) (g:Bool) (a:Addr):(R.add g a).sel g = R.sel g ++ [a]:=by cases g <;> rfl
theorem Adrs.add_other (R:Adrs) (g:Bool) (a:Addr):(R.add g a).sel (!g) = R.sel (!g):=by cases g <;> rfl
theorem Ext.add (K F:Heap) (R:Adrs) (g:Bool) (a:Addr):Ext K F R F (R.add g a):=by
 cases g
 ·exact ⟨fun _ _ e=>e,List.prefix_rfl,List.prefix_append _ _,fun _ _ _=>rfl⟩
 ·exact ⟨fun _ _ e=>e,List.prefix_append _ _,List.prefix_rfl,fun _ _ _=>rfl⟩
theorem Adrs.add_get {R:Adrs} {g b:Bool} {a x:Addr} {m:Nat} (h:((R.add g a).sel b)[m]? = some x):(R.sel b)[m]? = some x ∨ (b = g ∧ m = (R.sel g).length ∧ x = a):=by
 by_cases hb:b = g
 ·subst hb
  rw [Adrs.add_self] at h
  rcases Nat.lt_trichotomy m (R.sel b).length with q | q | q
  ·rw [List.getElem?_append_left q] at h; exact .inl h
  ·subst q; rw [List.getElem?_concat_length] at h; exact .inr ⟨rfl,rfl,(Option.some.inj h).symm⟩
  ·rw [List.getElem?_eq_none (by rw [List.length_append]; simp; (assumption))] at h; exact none_some h
 ·have:b = !g:=by cases b <;> cases g <;> simp_all
  subst this; rw [Adrs.add_other] at h; exact .inl h
theorem live_add {g:Bool} {a:Addr} {o:O} {H':Bool -> List O} (hlen:∀ g,(R.sel g).length = (H g).length) (hg:H' g = H g ++ [o]) (hg':H' (!g) = H (!g)) {b:Bool} {m:Nat} {x:Addr} {q:O} (l:Live (R.add g a) H' b m x q) :
  Live R H b m x q ∨ (b = g ∧ m = (R.sel g).length ∧ x = a ∧ q = o):=by
 obtain ⟨e,e',d⟩:=l
 rcases Adrs.add_get e with e2 | ⟨rfl,rfl,rfl⟩
 ·left
  refine ⟨e2,?_,d⟩
  by_cases hb:b = g
  ·subst hb
   have hm:m < (H b).length:=by rw [← hlen b]; exact (List.getElem?_eq_some_iff.mp e2).1
   rwa [hg,List.getElem?_append_left hm] at e'
  ·have:b = !g:=by cases b <;> cases g <;> simp_all
   subst this; rwa [hg'] at e'
 ·right
  rw [hg,hlen b,List.getElem?_concat_length] at e'
  exact ⟨rfl,rfl,rfl,(Option.some.inj e').symm⟩
theorem Store.add {g:Bool} {a:Addr} {o:O} {H':Bool -> List O} (S:Store c K F R H s) (hK:K.get? a = none) (hF:F.get? a = none) (hn:∀ g n b o,Live R H g n b o -> b ≠ a)
  (hi:HIn c F (cond g (R.add g a).glob (R.add g a)) s.heap a o) (hg:H' g = H g ++ [o]) (hg':H' (!g) = H (!g)):Store c K F (R.add g a) H' s:=by
 refine ⟨S.reach,S.base,S.hK,S.hF,S.dis,fun b=>?_,fun b m x q b' m' q' l1 l2=>?_,fun b m x q l=>?_⟩
 ·by_cases hb:b = g
  ·subst hb; rw [Adrs.add_self,hg,List.length_append,List.length_append,S.len b]; rfl
  ·have:b = !g:=by cases b <;> cases g <;> simp_all
   subst this; rw [Adrs.add_other,hg',S.len]
 ·rcases live_add S.len hg hg' l1 with e1 | ⟨h1,h2,h3,_⟩ <;> rcases live_add S.len hg hg' l2 with e3 | ⟨h4,h5,h6,_⟩
  ·exact S.apart _ _ _ _ _ _ _ e1 e3
  ·exact absurd h6 (hn _ _ _ _ e1)
  ·exact absurd h3 (hn _ _ _ _ e3)
  ·exact ⟨h1.trans h4.symm,h2.trans h5.symm⟩
 ·rcases live_add S.len hg hg' l with e1 | ⟨rfl,rfl,rfl,rfl⟩
  ·obtain ⟨y1,y2,y3⟩:=S.own b m x q e1
   refine ⟨y1,y2,y3.frame (K:=K) ?_ fun z hz=>hz⟩
   cases b
   ·exact Ext.add K F R g a
   ·exact (Ext.add K F R g a).globbed
  ·exact ⟨hK,hF,hi⟩
theorem Sim.up {h':Heap} {tk:Nat} (S:Sim c env K F R σ s) (hk:s.heap.StaysIn h'):Sim c env K F R σ { s with heap:=h',toks:=tk } where
 st:=S.st.up hk
 lK:=S.lK
 lF:=S.lF
 lR:=S.lR
 ns:=(by obtain ⟨m,n,r⟩:=S.ns; exact ⟨m,n.keeps hk,r⟩)
 cell:=fun i x e=>(by obtain ⟨a,q,e1,e2,r1,r2,r3,r4,r5⟩:=S.cell i x e; exact ⟨a,q,e1,e2.keeps hk,r1,r2,r3,r4,r5⟩)
 free:=S.free
theorem Sim.push {tk:Nat} (S:Sim c env K F R σ s) (o:Obj):Sim c env K F R σ { s with heap:=s.heap.push o,toks:=tk }:=S.up (fun _ _ e=>Heap.get?_push_of_some _ e)
theorem Sim.LLt (S:Sim c env K F R σ s):env.locals < s.heap.objs.size:=(by obtain ⟨_,n,_⟩:=S.ns; exact n.lt)
theorem Store.lowL (S:Store c K F R H s) {g:Bool} {n:Nat} {a:Addr} {o:O} (l:Live R H g n a o):a < s.heap.objs.size:=by
 obtain ⟨q,e⟩:=(S.own g n a o l).2.2.some l.2.2
 exact Heap.lt_size e
theorem Sim.freeze (S:Sim c env K F R σ s) (P:Addr -> Bool) (hP:∀ a,P a = true -> K.get? a = none ∧ (∀ g n o,¬ Live R σ.sel g n a o) ∧ a ≠ env.locals ∧ ∀ x,env.cells.lookup x ≠ some a) :
  ∃ F',And4 (Ext K F R F' R) (∀ a,P a = true -> F'.get? a = s.heap.get? a) (Sim c env K F' R σ s) (∀ a,P a = false -> F'.get? a = F.get? a):=by
 refine hG9 fun P_ b_=>?_
 obtain ⟨F',X,y,z,S'⟩:=S.st.freeze P fun a h=>⟨(hP a h).1,(hP a h).2.1⟩
 have no:∀ a,F.get? a = none -> P a = false -> F'.get? a = none:=fun a h1 h2=>by
  cases q:F'.get? a with
  | none=>rfl
  | some o =>
   rcases z a o q with q | q
   ·rw [h1] at q; exact none_some q
   ·rw [h2] at q; cases q
 have same:∀ a,P a = false -> F'.get? a = F.get? a:=fun a h=>by
  cases q:F.get? a with
  | none=>exact no a q h
  | some o=>exact X.f a o q
 refine b_ ?_; clear b_ P_
 refine ⟨F',X,y,⟨S',S.lK,no _ S.lF ?_,S.lR,?_,fun i x e=>?_,fun i x e=>?_⟩,same⟩
 ·cases q:P env.locals with
  | false=>rfl
  | true=>exact absurd rfl (hP _ q).2.2.1
 ·skip
  refine S.nsE fun m n r=>?_
  exact ⟨m,n,fun i x v e e' d=>(by obtain ⟨cv,h1,h2⟩:=r i x v e e' d; exact ⟨cv,h1,h2.ext X⟩)⟩
 ·skip
  refine S.cellE i x e fun a q e1 e2 e3 e4 e5 e6 e7=>?_
  refine ⟨a,q,e1,e2,e3,no _ e4 ?_,e5,e6,fun v h d=>(by obtain ⟨cv,h1,h2⟩:=e7 v h d; exact ⟨cv,h1,h2.ext X⟩)⟩
  cases q:P a with
  | false=>rfl
  | true=>exact absurd e1 ((hP _ q).2.2.2 x)
 ·skip
  refine S.freeE i x e fun a cv e1 e2 e3=>?_
  exact ⟨a,cv,e1,e2,fun v h d=>(e3 v h d).ext X⟩
theorem cell_low (ok:EnvOK env) (S:Sim c env K F R σ s) {x:Str} {a:Addr} (h:env.cells.lookup x = some a):a < s.heap.objs.size:=by
 refine hG9 fun P_ b_=>?_
 obtain ⟨i,e | e⟩:=ok.cl x a h
 ·refine S.cellE i x e fun b q e1 e2 _ _ _ _ _=>?_
  obtain rfl:=Option.some.inj (h.symm.trans e1)
  refine b_ ?_; clear b_ P_
  exact e2.lt
 ·refine S.freeE i x e fun b cv e1 e2 _=>?_
  obtain rfl:=Option.some.inj (h.symm.trans e1)
  obtain ⟨o,ho,_⟩:=e2
  refine b_ ?_; clear b_ P_
  exact Heap.lt_size (S.st.hK _ _ ho)
theorem not_in_low {a:Addr} (S:Sim c env K F R σ s) (ok:EnvOK env) (h:s.heap.objs.size ≤ a):K.get? a = none ∧ F.get? a = none ∧ (∀ g n b o,Live R σ.sel g n b o -> b ≠ a) ∧ a ≠ env.locals ∧ ∀ x,env.cells.lookup x ≠ some a:=by
 refine ⟨?_,?_,fun g n b o l e=>absurd (S.st.lowL l) (by rw [e]; exact Nat.not_lt.mpr h),fun e=>absurd S.LLt (by rw [← e]; exact Nat.not_lt.mpr h),fun x e=>absurd (cell_low ok S e) (Nat.not_lt.mpr h)⟩
 ·cases q:K.get? a with
  | none=>rfl
  | some o'=>exact absurd (Heap.lt_size (S.st.hK _ _ q)) (Nat.not_lt.mpr h)
 ·cases q:F.get? a with
  | none=>rfl
  | some o'=>exact absurd (Heap.lt_size (S.st.hF _ _ q)) (Nat.not_lt.mpr h)
theorem Sim.fresh (ok:EnvOK env) (S:Sim c env K F R σ s) {o:Obj} {tk:Nat} (ho:o.isFreed = false):∃ F',And3 (Ext K F R F' R) (F'.get? s.heap.objs.size = some o) (Sim c env K F' R σ { s with heap:=s.heap.push o,toks:=tk }):=by
 have W:=not_in_low S ok (Nat.le_refl _)
 obtain ⟨F',X,y,S',_⟩:=(S.push (tk:=tk) o).freeze (fun a=>a == s.heap.objs.size) fun a h=>by
  have h':a = s.heap.objs.size:=by simpa using h
  subst h'
  exact ⟨W.1,fun g n o' l=>W.2.2.1 _ _ _ _ l rfl,W.2.2.2.1,W.2.2.2.2⟩
 exact ⟨F',X,(y _ (by simp)).trans (Heap.get?_push_size _ ho),S'⟩
theorem Sim.setOwn (S:Sim c env K F R σ s) {h':Heap} {tk:Nat} {g:Bool} {n:Nat} {a:Addr} {o o':O} (l:Live R σ.sel g n a o)
  (hs:Heap.SameBut a s.heap h') (hi:HIn c F (cond g R.glob R) h' a o'):Sim c env K F R (σ.put g n o') { s with heap:=h',toks:=tk }:=by
 have W:=S.st.own g n a o l
 have hl:(σ.put g n o').loc = σ.loc:=by cases g <;> rfl
 have h1:(σ.put g n o').sel g = (σ.sel g).set n o':=by cases g <;> rfl
 have h2:(σ.put g n o').sel (!g) = σ.sel (!g):=by cases g <;> rfl
 have keep:∀ {b m x q},Live R (σ.put g n o').sel b m x q -> ∃ q',Live R σ.sel b m x q':=fun k=>by
  rcases live_set h1 h2 k with ⟨rfl,rfl,rfl⟩ | ⟨_,k⟩
  ·exact ⟨o,k.1,l.2⟩
  ·exact ⟨_,k⟩
 refine ⟨S.st.setOwn l hs hi h1 h2,S.lK,S.lF,fun b m x q k=>(by obtain ⟨_,k'⟩:=keep k; exact S.lR _ _ _ _ k'),?_,fun i x e=>?_,fun i x e=>?_⟩
 ·skip
  refine S.nsE fun m q r=>?_
  exact ⟨m,q.sameBut hs (Ne.symm (S.lR _ _ _ _ l)),fun i x v e e' d=>r i x v e (hl ▸ e') d⟩
 ·skip
  refine S.cellE i x e fun b q e1 e2 e3 e4 e5 e6 e7=>?_
  exact ⟨b,q,e1,e2.sameBut hs (Ne.symm (e6 _ _ _ _ l)),e3,e4,e5,fun g n b o k=>(by obtain ⟨_,k'⟩:=keep k; exact e6 _ _ _ _ k'),fun v h d=>e7 v (hl ▸ h) d⟩
 ·skip
  refine S.freeE i x e fun b cv e1 e2 e3=>?_
  exact ⟨b,cv,e1,e2,fun v h d=>e3 v (hl ▸ h) d⟩
noncomputable def St.alloc (σ:St) (g:Bool) (o:O):St:=if g then { σ with heap:=σ.heap ++ [o] } else { σ with tmp:=σ.tmp ++ [o] }
theorem Sim.add (S:Sim c env K F R σ s) {g:Bool} {a:Addr} {o:O} (hK:K.get? a = none) (hF:F.get? a = none) (hn:∀ g n b o,Live R σ.sel g n b o -> b ≠ a) (hL:a ≠ env.locals) (hc:∀ x,env.cells.lookup x ≠ some a)
  (hi:HIn c F (cond g (R.add g a).glob (R.add g a)) s.heap a o):Sim c env K F (R.add g a) (σ.alloc g o) s ∧ ((R.add g a).sel g)[(σ.sel g).length]? = some a:=by
 have hl:(σ.alloc g o).loc = σ.loc:=by cases g <;> rfl
 have h1:(σ.alloc g o).sel g = σ.sel g ++ [o]:=by cases g <;> rfl
 have h2:(σ.alloc g o).sel (!g) = σ.sel (!g):=by cases g <;> rfl
 have X:=Ext.add K F R g a
 refine ⟨⟨S.st.add hK hF hn hi h1 h2,S.lK,S.lF,fun b m x q k=>?_,?_,fun i x e=>?_,fun i x e=>?_⟩,?_⟩
 ·refine hG9 fun P_ b_=>?_
  rcases live_add S.st.len h1 h2 k with k | ⟨_,_,k,_⟩
  ·refine b_ ?_; clear b_ P_
   exact S.lR _ _ _ _ k
  ·refine b_ ?_; clear b_ P_
   rw [k]; exact hL
 ·skip
  refine S.nsE fun m q r=>?_
  exact ⟨m,q,fun i x v e e' d=>(by obtain ⟨cv,h1,h2⟩:=r i x v e (hl ▸ e') d; exact ⟨cv,h1,h2.ext X⟩)⟩
 ·skip
  refine S.cellE i x e fun b q e1 e2 e3 e4 e5 e6 e7=>?_
  refine ⟨b,q,e1,e2,e3,e4,e5,fun b' m x' q' k=>?_,fun v h d=>(by obtain ⟨cv,h1,h2⟩:=e7 v (hl ▸ h) d; exact ⟨cv,h1,h2.ext X⟩)⟩
  rcases live_add S.st.len h1 h2 k with k | ⟨_,_,k,_⟩
  ·skip
   exact e6 _ _ _ _ k
  ·skip
   rw [k]; exact fun z=>hc x (z ▸ e1)
 ·skip
  refine S.freeE i x e fun b cv e1 e2 e3=>?_
  exact ⟨b,cv,e1,e2,fun v h d=>(e3 v (hl ▸ h) d).ext X⟩
 ·rw [Adrs.add_self,← S.st.len g,List.getElem?_concat_length]
theorem Sim.freezeOwn (ok:EnvOK env) (S:Sim c env K F R σ s) {g:Bool} {n:Nat} {a:Addr} {o:O} (l:Live R σ.sel g n a o) :
  ∃ F',And3 (Ext K F R F' R) (F'.get? a = s.heap.get? a) (Sim c env K F' R (σ.put g n .dead) s):=by
 have W:=S.st.own g n a o l
 have hl:(σ.put g n .dead).loc = σ.loc:=by cases g <;> rfl
 have h1:(σ.put g n .dead).sel g = (σ.sel g).set n .dead:=by cases g <;> rfl
 have h2:(σ.put g n .dead).sel (!g) = σ.sel (!g):=by cases g <;> rfl
 have kk:∀ {b m x q},Live R (σ.put g n .dead).sel b m x q -> Live R σ.sel b m x q:=fun k=>live_kill h1 h2 k
 have S':Sim c env K F R (σ.put g n .dead) s:=by
  refine ⟨S.st.kill h1 h2,S.lK,S.lF,fun b m x q k=>S.lR _ _ _ _ (kk k),by rw [hl]; exact S.ns,fun i x e=>?_,by rw [hl]; exact S.free⟩
  refine S.cellE i x e fun b q e1 e2 e3 e4 e5 e6 e7=>?_
  exact ⟨b,q,e1,e2,e3,e4,e5,fun b' m x' q' k=>e6 _ _ _ _ (kk k),by rw [hl]; exact e7⟩
 obtain ⟨F',X,y,S'',_⟩:=S'.freeze (fun b=>b == a) fun b h=>by
  have h':b = a:=by simpa using h
  subst h'
  refine ⟨W.1,fun g' n' o' k=>?_,S.lR _ _ _ _ l,fun x e=>?_⟩
  ·rcases live_set h1 h2 k with ⟨_,_,q⟩ | ⟨q,k'⟩
   ·exact k.2.2 q
   ·exact q (S.st.apart _ _ _ _ _ _ _ k' l)
  ·obtain ⟨i,k | k⟩:=ok.cl x b e
   ·refine S.cellE i x k fun b' q e1 _ _ _ _ e6 _=>?_
    obtain rfl:=Option.some.inj (e.symm.trans e1)
    exact e6 _ _ _ _ l rfl
   ·refine S.freeE i x k fun b' cv e1 e2 _=>?_
    obtain rfl:=Option.some.inj (e.symm.trans e1)
    obtain ⟨o',ho',_⟩:=e2
    rw [W.1] at ho'; cases ho'
 exact ⟨F',X,y a (by simp),S''⟩
end
theorem lookup_nd {α:Type} {l:List (Str × α)} (nd:(l.map (·.1)).Nodup) {i:Nat} {x:Str} {k:α} (h:l[i]? = some (x,k)):l.lookup x = some k:=by
 induction l generalizing i with
 | nil=>exact none_some h
 | cons p l ih =>
  rw [List.map_cons,List.nodup_cons] at nd
  cases i with
  | zero =>
   rw [List.getElem?_cons_zero] at h; cases h
   simp
  | succ i =>
   rw [List.getElem?_cons_succ] at h
   have hm:x ∈ l.map (·.1):=List.mem_map.mpr ⟨_,List.mem_of_getElem? h,rfl⟩
   obtain ⟨y,q⟩:=p
   have:(x == y) = false:=beq_eq_false_iff_ne.mpr fun e=>nd.1 (e ▸ hm)
   rw [List.lookup_cons,this]
   exact ih nd.2 h
theorem EnvOK.kindOf {env:Env} (ok:EnvOK env) {i:Nat} {x:Str} {k:NameKind} (h:env.scope.names[i]? = some (x,k)):env.kindOf x = some k:=lookup_nd ok.nd h
theorem EnvOK.dbgAt {env:Env} (ok:EnvOK env) {i:Nat} {x:Str} {k:NameKind} (h:env.scope.names[i]? = some (x,k)):(x == ("__debug__" : Str)) = false ∧ (x == ("__classdict__" : Str)) = false:=ok.dbg _ (List.mem_of_getElem? h)
theorem EnvOK.hp {env:Env} (ok:EnvOK env):(env.scope.kind == .class || (env.scope.kind == .module && env.locals != env.globals)) = false:=by rw [ok.kind]; rfl
theorem EnvOK.inter {env:Env} (ok:EnvOK env):interactive env = false:=by unfold interactive; rw [ok.kind]; rfl
theorem some_if {α:Type} {p:Prop} [Decidable p] {a r:α} (h:(if p then some a else none) = some r):p ∧ a = r:=by
 by_cases q:p
 ·rw [if_pos q] at h; exact ⟨q,Option.some.inj h⟩
 ·rw [if_neg q] at h; exact none_some h
theorem some_ifE {α:Type} {p:Prop} [Decidable p] {a r:α} {C:Prop} (h:(if p then some a else none) = some r) (k:p -> a = r -> C):C:=k (some_if h).1 (some_if h).2
noncomputable def mGet (i:Nat):AM V:=fun σ=>σ.loc[i]?.bind fun v=>if v.ok = true then some (v,σ) else none
theorem mGet_some {i:Nat} {σ:St} {r:V × St} (h:mGet i σ = some r):σ.loc[i]? = some r.1 ∧ r.1 ≠ .undef ∧ r.2 = σ:=by
 refine obind_elim h fun v hd h=>some_ifE h fun hv e=>?_
 subst e
 refine ⟨hd,fun e=>?_,rfl⟩
 rw [show v = .undef from e] at hv; cases hv
section
variable {c:Cx} {d:Nat} {env:Env}
theorem rGet (ok:EnvOK env) {i:Nat} {x:Str} {pos:Pos} (hi:env.scope.names[i]? = some (x,.local) ∨ env.scope.names[i]? = some (x,.cell) ∨ env.scope.names[i]? = some (x,.free)):RE c d env (eval (.Name x pos) env) (mGet i):=by
 refine ⟨fun A gA K F R σ s S v σ' h=>?_⟩
 refine hG9 fun P_ b_=>?_
 obtain ⟨h1,h2,rfl⟩:=mGet_some h
 have fin:∀ cv,VIn c F R cv v -> Ex2 fun F' R'=>And3 (Ext K F R F' R') (Sim c env K F' R' σ' s) (VIn c F' R' cv v):=fun cv hv=>⟨F,R,Ext.refl ..,S,hv⟩
 rcases hi with hi | hi | hi
 ·refine S.nsE fun m n r=>?_
  obtain ⟨cv,e1,e2⟩:=r i x v hi h1 h2
  refine b_ ?_; clear b_ P_
  exact wpAny_Name (wpAny_loadName_local ok.kind (ok.kindOf hi) n e1 (fin cv e2)) (ok.dbgAt hi).1
 ·refine S.cellE i x hi fun a q e1 e2 _ _ _ _ e7=>?_
  obtain ⟨cv,rfl,e8⟩:=e7 v h1 h2
  refine b_ ?_; clear b_ P_
  exact wpAny_Name (wpAny_loadName_cell ok.kind (ok.kindOf hi) e1 e2 (fin cv e8)) (ok.dbgAt hi).1
 ·refine S.freeE i x hi fun a cv e1 e2 e3=>?_
  refine b_ ?_; clear b_ P_
  exact wpAny_Name (wpAny_loadName_free ok.kind (ok.kindOf hi) e1 (e2.keeps fun b o e=>S.st.hK b o e) (fin cv (e3 v h1 h2)) (ok.dbgAt hi).2) (ok.dbgAt hi).1
theorem rGetL (ok:EnvOK env) {i:Nat} {x:Str} {pos:Pos} (hi:env.scope.names[i]? = some (x,.local)):RE c d env (eval (.Name x pos) env) (mGet i):=rGet ok (.inl hi)
theorem rGetC (ok:EnvOK env) {i:Nat} {x:Str} {pos:Pos} (hi:env.scope.names[i]? = some (x,.cell)):RE c d env (eval (.Name x pos) env) (mGet i):=rGet ok (.inr (.inl hi))
theorem rInt {i:Int} {k:Nat} {pos:Pos}:RE c d env (eval (.Constant (.int i) k pos) env) (pure (.int i)):=by
 refine ⟨fun A gA K F R σ s S v σ' h=>?_⟩
 refine some2E h fun z0_ z1_=>?_
 subst z0_
 subst z1_
 exact wpAny_Constant_int ⟨F,R,Ext.refl ..,S.tok _,.int _ _⟩
theorem rStr {x:Str} {k:Nat} {pos:Pos}:RE c d env (eval (.Constant (.str x) k pos) env) (pure (.str x)):=by
 refine ⟨fun A gA K F R σ s S v σ' h=>?_⟩
 refine some2E h fun z0_ z1_=>?_
 subst z0_
 subst z1_
 exact Calls.Constant_str ⟨F,R,Ext.refl ..,S.tok _,.str _ _⟩
theorem rNone {k:Nat} {pos:Pos}:RE c d env (eval (.Constant .none k pos) env) (pure .none):=by
 refine ⟨fun A gA K F R σ s S v σ' h=>?_⟩
 refine some2E h fun z0_ z1_=>?_
 subst z0_
 subst z1_
 exact wpAny_pure ⟨F,R,Ext.refl ..,S,.none⟩
theorem rBool {b:Bool} {k:Nat} {pos:Pos}:RE c d env (eval (.Constant (.bool b) k pos) env) (pure (.bool b)):=by
 refine ⟨fun A gA K F R σ s S v σ' h=>?_⟩
 refine some2E h fun z0_ z1_=>?_
 subst z0_
 subst z1_
 exact wpAny_pure ⟨F,R,Ext.refl ..,S,.bool b⟩
noncomputable def mAll:List (AM V) -> AM (List V)
 | []=>pure []
 | m :: ms=>do let v ← m; let vs ← mAll ms; pure (v :: vs)
noncomputable abbrev RL (c:Cx):=Ref (VAll c) c
theorem rlNil:RL c d env (spliced []) (mAll []):=by
 refine ⟨fun A gA K F R σ s S v σ' h=>?_⟩
 refine some2E h fun z0_ z1_=>?_
 subst z0_
 subst z1_
 exact Calls.spliced_nil ⟨F,R,Ext.refl ..,S,.nil⟩
theorem rlCons {t:Sem Value} {ts:List (Bool × Sem Value)} {m:AM V} {ms:List (AM V)} (h1:RE c d env t m) (h2:RL c d env (spliced ts) (mAll ms)):RL c d env (spliced ((false,t) :: ts)) (mAll (m :: ms)):=by
 refine ⟨fun A gA K F R σ s S v σ' h=>?_⟩
 refine hG9 fun P_ b_=>?_
 revert h
 refine AM.bind_elim fun v1 σ1 e1 h=>?_
 revert h
 refine AM.bind_elim fun vs σ2 e2 h=>?_
 obtain ⟨rfl,rfl⟩:=AM.pure_some h
 refine b_ ?_; clear b_ P_
 refine Calls.spliced_cons (h1.go gA S e1 fun cv F1 R1 s1 X1 S1 V1=>h2.go gA S1 e2 fun cvs F2 R2 s2 X2 S2 V2=>?_)
 exact ⟨F2,R2,X1.trans X2,S2,.cons (V1.ext X2) V2⟩
noncomputable def RX (c:Cx) (d:Nat) (env:Env) (pos:Pos) (es:List PySem.Expr) (ms:List (AM V)):Prop:=RL c d env (spliced (backTo pos (starEach es env))) (mAll ms)
theorem rxNil {pos:Pos}:RX c d env pos [] []:=rlNil
theorem rxCons {pos:Pos} {e:PySem.Expr} {es:List PySem.Expr} {m:AM V} {ms:List (AM V)} (h1:RE c d env (eval e env) m) (h2:RX c d env pos es ms) (hs:starEach (e :: es) env = (false,eval e env) :: starEach es env:=by rfl):RX c d env pos (e :: es) (m :: ms):=by
 unfold RX
 rw [hs]
 exact rlCons h1 h2
noncomputable def lid:Nat:=2 ^ 20
theorem lid_line:lid ≤ sizeLine:=by rw [sizeLine_eq]; decide
noncomputable def mTup (ms:List (AM V)):AM V:=do let vs ← mAll ms; if vs.length < lid then pure (.tup vs) else failure
noncomputable def mLstF (ms:List (AM V)):AM V:=do let vs ← mAll ms; if vs.length < lid then pure (.lst vs) else failure
theorem AM.ite_some {α:Type} {P:Prop} [Decidable P] {m:AM α} {σ:St} {r:α × St} (h:(if P then m else failure) σ = some r):P ∧ m σ = some r:=by
 by_cases p:P
 ·rw [if_pos p] at h; exact ⟨p,h⟩
 ·rw [if_neg p] at h; exact none_some h
theorem rTup (ok:EnvOK env) {es:List PySem.Expr} {k:Nat} {pos:Pos} {ms:List (AM V)} (h1:RX c d env pos es ms):RE c d env (eval (.Tuple es k pos) env) (mTup ms):=by
 refine ⟨fun A gA K F R σ s S v σ' h=>?_⟩
 refine hG9 fun P_ b_=>?_
 revert h
 refine AM.bind_elim fun vs σ1 e1 h=>?_
 obtain ⟨hl,h⟩:=AM.ite_some h
 obtain ⟨rfl,rfl⟩:=AM.pure_some h
 refine b_ ?_; clear b_ P_
 rw [arm_eval_Tuple]
 refine wpAny_bind (wpAny_standAt (wpAny_bind (Ref.go h1 gA S e1 fun cvs F1 R1 s1 X1 S1 V1=>wpAny_newTuple ?_ ?_)))
 ·skip
  obtain ⟨F2,X2,g2,S2⟩:=S1.fresh ok (o:=seqO "tuple" cvs 0) (tk:=s1.toks) rfl
  exact ⟨F2,R1,X1.trans X2,S2,.tup g2 rfl rfl (V1.ext X2)⟩
 ·rw [V1.length]; exact Nat.le_trans (Nat.le_of_lt hl) lid_line
theorem rLstF (ok:EnvOK env) {es:List PySem.Expr} {pos:Pos} {ms:List (AM V)} (h1:RX c d env pos es ms):RE c d env (eval (.List es pos) env) (mLstF ms):=by
 refine ⟨fun A gA K F R σ s S v σ' h=>?_⟩
 refine hG9 fun P_ b_=>?_
 revert h
 refine AM.bind_elim fun vs σ1 e1 h=>?_
 obtain ⟨hl,h⟩:=AM.ite_some h
 obtain ⟨rfl,rfl⟩:=AM.pure_some h
 refine b_ ?_; clear b_ P_
 rw [arm_eval_List]
 refine wpAny_bind (wpAny_standAt (wpAny_bind (Ref.go h1 gA S e1 fun cvs F1 R1 s1 X1 S1 V1=>wpAny_newList ?_ ?_)))
 ·skip
  obtain ⟨F2,X2,g2,S2⟩:=S1.fresh ok (o:=seqO "list" cvs 0) (tk:=s1.toks) rfl
  exact ⟨F2,R1,X1.trans X2,S2,.lst g2 (V1.ext X2)⟩
 ·rw [V1.length]; exact Nat.le_trans (Nat.le_of_lt hl) lid_line
noncomputable def mAlloc (g:Bool) (o:O):AM V:=fun σ=>some (.ref g (σ.sel g).length,σ.alloc g o)
theorem Sim.alloc (ok:EnvOK env) {K F:Heap} {R:Adrs} {σ:St} {s:Shared} (S:Sim c env K F R σ s) {g:Bool} {q:Obj} {o:O} (hq:q.isFreed = false)
  (hi:∀ h' R',h'.get? s.heap.objs.size = some q -> Ext K F (cond g R.glob R) F R' -> HIn c F R' h' s.heap.objs.size o) :
  ∃ R',And3 (Ext K F R F R') (Sim c env K F R' (σ.alloc g o) { s with heap:=s.heap.push q }) (VIn c F R' (.ref s.heap.objs.size) (.ref g (σ.sel g).length)):=by
 have W:=not_in_low S ok (Nat.le_refl _)
 have X:=Ext.add K F R g s.heap.objs.size
 obtain ⟨S',h'⟩:=(S.push (tk:=s.toks) q).add (g:=g) (a:=s.heap.objs.size) (o:=o) W.1 W.2.1 W.2.2.1 W.2.2.2.1 W.2.2.2.2 (by
  refine hi _ _ (Heap.get?_push_size _ hq) ?_
  cases g
  ·exact X
  ·exact X.globbed)
 exact ⟨_,X,S',.ref h'⟩
noncomputable def mLstO (g:Bool) (ms:List (AM V)):AM V:=do let vs ← mAll ms; if vs.length < lid ∧ (g = true -> cleanL vs = true) then mAlloc g (.list vs) else failure
theorem rLstO (ok:EnvOK env) {es:List PySem.Expr} {pos:Pos} {g:Bool} {ms:List (AM V)} (h1:RX c d env pos es ms):RE c d env (eval (.List es pos) env) (mLstO g ms):=by
 refine ⟨fun A gA K F R σ s S v σ' h=>?_⟩
 revert h
 refine AM.bind_elim fun vs σ1 e1 h=>?_
 obtain ⟨hl,h⟩:=AM.ite_some h
 refine some2E h fun z0_ z1_=>?_
 subst z0_
 subst z1_
 rw [arm_eval_List]
 refine wpAny_bind (wpAny_standAt (wpAny_bind (Ref.go h1 gA S e1 fun cvs F1 R1 s1 X1 S1 V1=>wpAny_newList ?_ ?_)))
 ·obtain ⟨R2,X2,S2,V2⟩:=S1.alloc ok (g:=g) (q:=seqO "list" cvs 0) (o:=.list vs) rfl fun h' R' e x=>⟨cvs,0,e,by
   cases g
   ·exact V1.ext x
   ·exact (V1.glob (hl.2 rfl)).ext x⟩
  exact ⟨F1,R2,X1.trans X2,S2,V2⟩
 ·rw [V1.length]; exact Nat.le_trans (Nat.le_of_lt hl.1) lid_line
noncomputable def opAdd:V -> V -> Option V:=int2 fun a b=>some (.int (a + b))
noncomputable def opSub:V -> V -> Option V:=int2 fun a b=>some (.int (a - b))
noncomputable def opMul:V -> V -> Option V:=int2 fun a b=>if -(2 ^ 64) < b ∧ b < 2 ^ 64 then some (.int (a * b)) else none
noncomputable def opMod:V -> V -> Option V:=int2 fun a b=>if 0 < b then some (.int (a % b)) else none
noncomputable def opAnd:V -> V -> Option V:=int2 fun a b=>if b = 4294967295 then some (.int (a % 4294967296)) else none
noncomputable def twoInts {β:Type} (m1 m2:AM V) (f:Int -> Int -> Option β):AM β:=do let v ← m1; let u ← m2; fun σ=>(int2 f v u).map fun r=>(r,σ)
theorem asInt_is {v:V} {i:Int} (h:v.asInt = some i):v = .int i:=by
 cases v with
 | int j=>rw [Option.some.inj h]
 | _=>exact none_some h
theorem twoInts_elim {β:Type} {m1 m2:AM V} {f:Int -> Int -> Option β} {σ:St} {r:β × St} {C:Prop} (h:twoInts m1 m2 f σ = some r) (k:∀ a b σ1,m1 σ = some (.int a,σ1) -> m2 σ1 = some (.int b,r.2) -> f a b = some r.1 -> C):C:=by
 revert h
 refine AM.bind_elim fun v σ1 e1 h=>?_
 revert h
 refine AM.bind_elim fun u σ2 e2 h=>?_
 refine map_elim h fun x hx e=>obind_elim hx fun a ha hx=>obind_elim hx fun b hb hx=>?_
 subst e
 rw [asInt_is ha] at e1
 rw [asInt_is hb] at e2
 exact k a b σ1 e1 e2 hx
noncomputable def mOp (f:V -> V -> Option V) (a b:AM V):AM V:=do let x ← a; let y ← b; match f x y with | some r=>pure r | none=>failure
noncomputable def OpIs (c:Cx) (op:Operator) (f:V -> V -> Option V):Prop:=∀ (A:Around) (F:Heap) (R:Adrs) (s:Shared) (ca cb:Value) (a b r:V),VIn c F R ca a -> VIn c F R cb b -> f a b = some r ->
 ∀ (Q:Value -> Shared -> Prop),(∀ cv t,VIn c F R cv r -> Q cv { s with toks:=t }) -> wpAny (model c.prog c.w) A (binaryOp op ca cb) Q NoE s
theorem mOp_some {f:V -> V -> Option V} {a b:AM V} {σ:St} {r:V × St} (h:mOp f a b σ = some r):Ex3 fun x σ1 y=>And3 (a σ = some (x,σ1)) (b σ1 = some (y,r.2)) (f x y = some r.1):=by
 refine hG9 fun P_ b_=>?_
 revert h
 refine AM.bind_elim fun x σ1 e1 h=>?_
 revert h
 refine AM.bind_elim fun y σ2 e2 h=>?_
 refine b_ ?_; clear b_ P_
 cases q:f x y with
 | none=>rw [q] at h; exact none_some h
 | some z=>rw [q] at h; cases h; exact ⟨x,σ1,y,e1,e2,q⟩
theorem rOp {op:Operator} {f:V -> V -> Option V} (hf:OpIs c op f) {l r:PySem.Expr} {pos:Pos} {ml mr:AM V} (h1:RE c d env (eval l env) ml) (h2:RE c d env (eval r env) mr):RE c d env (eval (.BinOp l op r pos) env) (mOp f ml mr):=by
 refine ⟨fun A gA K F R σ s S v σ' h=>?_⟩
 obtain ⟨x,σ1,y,e1,e2,e3⟩:=mOp_some h
 refine wpAny_BinOp (h1.go gA S e1 fun ca F1 R1 s1 X1 S1 V1=>h2.go gA S1 e2 fun cb F2 R2 s2 X2 S2 V2=>?_)
 exact hf A F2 R2 s2 ca cb x y v (V1.ext X2) V2 e3 _ fun cv t V3=>⟨F2,R2,X1.trans X2,S2.tok t,V3⟩
theorem isAdd:OpIs c .Add opAdd:=by
 intro A F R s ca cb a b r ha hb h Q k
 obtain ⟨x,y,t,u,h0,rfl,rfl⟩:=int2_in h ha hb
 exact PySem.P.add_int (k _ _ (Option.some.inj h0 ▸ .int _ _))
theorem isSub:OpIs c .Sub opSub:=by
 intro A F R s ca cb a b r ha hb h Q k
 obtain ⟨x,y,t,u,h0,rfl,rfl⟩:=int2_in h ha hb
 exact PySem.P.sub_int (k _ _ (Option.some.inj h0 ▸ .int _ _))
theorem isMul:OpIs c .Mult opMul:=by
 intro A F R s ca cb a b r ha hb h Q k
 obtain ⟨x,y,t,u,h0,rfl,rfl⟩:=int2_in h ha hb
 have q:=some_if h0
 exact PySem.P.mul_int (k _ _ (q.2 ▸ .int _ _)) (IntMulOk.of_right (intBits_le_64 q.1.1 q.1.2))
theorem isMod:OpIs c .Mod opMod:=by
 intro A F R s ca cb a b r ha hb h Q k
 obtain ⟨x,y,t,u,h0,rfl,rfl⟩:=int2_in h ha hb
 have q:=some_if h0
 refine PyProof.Rows.mod_int' (Int.ne_of_gt q.1) ?_
 rw [Int.fmod_eq_emod_of_nonneg _ (Int.le_of_lt q.1)]
 exact k _ _ (q.2 ▸ .int _ _)
theorem bitAnd_mask (x:Int):Builtin.bitAnd x 4294967295 = x % 4294967296:=by
 have hm:∀ n:Nat,n &&& 4294967295 = n % 4294967296:=fun n=>Nat.and_two_pow_sub_one_eq_mod n 32
 cases x with
 | ofNat n=>exact congrArg Int.ofNat (hm n)
 | negSucc n =>
  rw [Int.negSucc_emod n (by decide)]
  show (4294967295:Int) - ((4294967295 &&& (Int.ofNat (n + 1) - 1).toNat:Nat):Int) = _
  rw [show Int.ofNat (n + 1) - 1 = n from Int.add_sub_cancel (n:Int) 1,Int.toNat_natCast,Nat.and_comm,hm]
  rfl
theorem isAnd:OpIs c .BitAnd opAnd:=by
 intro A F R s ca cb a b r ha hb h Q k
 obtain ⟨x,y,t,u,h0,rfl,rfl⟩:=int2_in h ha hb
 refine some_ifE h0 fun z0_ q=>?_
 subst z0_
 refine PyProof.Rows.and_int ?_
 rw [bitAnd_mask]
 exact k _ _ (q ▸ .int _ _)
noncomputable def V.neg (v:V):Option V:=v.asInt.map fun i=>.int (-i)
noncomputable def mNeg (a:AM V):AM V:=do let x ← a; fun σ=>x.neg.map fun r=>(r,σ)
theorem rNeg {e:PySem.Expr} {pos:Pos} {m:AM V} (h1:RE c d env (eval e env) m):RE c d env (eval (.UnaryOp .USub e pos) env) (mNeg m):=by
 refine ⟨fun A gA K F R σ s S v σ' h=>?_⟩
 refine hG9 fun P_ b_=>?_
 revert h
 refine AM.bind_elim fun x σ1 e1 h=>?_
 refine map_elim h fun r k h=>?_
 refine map_elim k fun i ki z2_=>?_
 subst z2_
 cases h
 refine b_ ?_; clear b_ P_
 refine UnaryOp_ (h1.go gA S e1 fun ca F1 R1 s1 X1 S1 V1=>?_)
 obtain ⟨t,rfl⟩:=asInt_in V1 ki
 exact PySem.P.neg_int ⟨F1,R1,X1,S1.tok _,.int _ _⟩
end
mutual
noncomputable def dat:V -> Dat
 | .none=>.none
 | .int i=>.int i
 | .str x=>.str x
 | .tup vs=>.tuple (datL vs)
 | .lst vs=>.list (datL vs)
 | .undef=>.bytes #[]
 | .bool _=>.bytes #[]
 | .set _=>.bytes #[]
 | .blk _=>.bytes #[]
 | .dctT _=>.bytes #[]
 | .inst _ _=>.bytes #[]
 | .obj _ _ _=>.bytes #[]
 | .ref _ _=>.bytes #[]
noncomputable def datL:List V -> List Dat
 | []=>[]
 | v :: vs=>dat v :: datL vs
end
section
variable {c:Cx} {F h:Heap} {R:Adrs}
theorem bytes_no {n:Nat} (h:kqdOk n (.bytes #[]) = true):False:=by simp [kqdOk] at h
theorem reads_tup {o:Obj} {a:Addr} {cvs:List Value} {m:Nat} {vs:List V} (g:h.get? a = some o) (g2:o.cls = .type "tuple") (g3:o.data = .seq cvs.toArray m) (r:∀ n,(∀ d ∈ datL vs,kqdOk n d = true) -> ∃ as,ReadsAll h cvs (kqdPs (datL vs)) as) (n:Nat) (k:kqdOk n (.tuple (datL vs)) = true):∃ as,Reads h (.ref a) (kqdP (.tuple (datL vs))) as:=by
 cases n with
 | zero=>simp [kqdOk] at k
 | succ n =>
  obtain ⟨as,q⟩:=r n (by simpa [kqdOk] using k)
  rw [kqdP]
  exact ⟨as,reads_tuple_at g g2 g3 (by simpa using q)⟩
theorem reads_lst {a:Addr} {cvs:List Value} {m:Nat} {vs:List V} (g:h.get? a = some (seqO "list" cvs m)) (r:∀ n,(∀ d ∈ datL vs,kqdOk n d = true) -> ∃ as,ReadsAll h cvs (kqdPs (datL vs)) as) (n:Nat) (k:kqdOk n (.list (datL vs)) = true):∃ as,Reads h (.ref a) (kqdP (.list (datL vs))) as:=by
 cases n with
 | zero=>simp [kqdOk] at k
 | succ n =>
  obtain ⟨as,q⟩:=r n (by simpa [kqdOk] using k)
  rw [kqdP]
  exact ⟨_,reads_list_at g rfl rfl (by simpa using q)⟩
theorem reads_of (hF:F.StaysIn h) {cv:Value} {v:V} (n:Nat) (q:VIn c F R cv v) (k:kqdOk n (dat v) = true):∃ as,Reads h cv (kqdP (dat v)) as :=
 VIn.rec (motive_1:=fun cv v _=>∀ n,kqdOk n (dat v) = true -> ∃ as,Reads h cv (kqdP (dat v)) as) (motive_2:=fun cvs vs _=>∀ n,(∀ d ∈ datL vs,kqdOk n d = true) -> ∃ as,ReadsAll h cvs (kqdPs (datL vs)) as) (motive_3:=fun _ _ _=>True) (motive_4:=fun _ _ _=>True)
  (fun _ _=>⟨_,Reads.none⟩) (fun _ _ k=>(bytes_no k).elim) (fun i t _ _=>⟨_,Reads.int i t⟩) (fun x t _ _=>⟨_,Reads.str x t⟩) (fun g g2 g3 _ r=>reads_tup (hF _ _ g) g2 g3 r) (fun g _ r=>reads_lst (hF _ _ g) r)
  (fun _ _ k=>(bytes_no k).elim) (fun _ _ k=>(bytes_no k).elim) (fun _ _ _ _ k=>(bytes_no k).elim) (fun _ _ _ _ _ _ k=>(bytes_no k).elim) (fun _ _ _ k=>(bytes_no k).elim) (fun _ _ k=>(bytes_no k).elim)
  (fun _ _=>⟨_,ReadsAll.nil⟩) (fun _ _ q r n k=>(q n (k _ (.head _))).elim fun _ q=>(r n fun d hm=>k d (.tail _ hm)).elim fun _ p=>⟨_,ReadsAll.cons q p⟩) trivial (fun _ _ _ _=>trivial) trivial (fun _ _ _ _=>trivial) q n k
theorem readsAll_of (hF:F.StaysIn h) {cvs:List Value} {vs:List V} (n:Nat) (q:VAll c F R cvs vs):(∀ d ∈ datL vs,kqdOk n d = true) -> ∃ as,ReadsAll h cvs (kqdPs (datL vs)) as :=
 VAll.ind (P:=fun cvs vs _=>(∀ d ∈ datL vs,kqdOk n d = true) -> ∃ as,ReadsAll h cvs (kqdPs (datL vs)) as) (fun _=>⟨_,ReadsAll.nil⟩)
  (fun q _ r k=>(reads_of hF n q (k _ (.head _))).elim fun _ q=>(r fun d hm=>k d (.tail _ hm)).elim fun _ p=>⟨_,ReadsAll.cons q p⟩) q
theorem shaped_of {d:Dat} (h:kqdOk 8 d = true):SeqAt.shaped (kqdP d) = true:=by
 have l:=kqd_lay 8 d h
 unfold SeqAt.shaped; rw [l.1,Bool.true_and]; exact decide_eq_true (Nat.le_trans l.2 (by decide))
end
noncomputable def V.res (σ:St) (v:V):V:=V.casesOn (motive_1:=fun _=>V) v v v (fun _=>v) (fun _=>v) (fun _=>v) (fun _=>v) (fun _=>v) (fun _=>v) (fun _=>v) (fun _=>v) (fun _ _=>v) (fun _ _ _=>v) (fun g n=>((σ.sel g)[n]?.bind O.listed).elim (.ref g n) .lst)
theorem res_reads {c:Cx} {env:Env} {K F:Heap} {R:Adrs} {σ:St} {s:Shared} (S:Sim c env K F R σ s) {cv:Value} {v:V} (h:VIn c F R cv v) (k:kqdOk 8 (dat (v.res σ)) = true):∃ as,Reads s.heap cv (kqdP (dat (v.res σ))) as:=by
 cases v with
 | ref g n =>
  rw [show V.res σ (.ref g n) = ((σ.sel g)[n]?.bind O.listed).elim (.ref g n) .lst from rfl] at k ⊢
  cases q:(σ.sel g)[n]?.bind O.listed with
  | none=>rw [q] at k; exact (bytes_no k).elim
  | some vs =>
   rw [q] at k
   refine obind_elim q fun o q e=>?_
   obtain rfl:=O.listed_some e
   obtain ⟨ca,rfl,ha⟩:=h.inv
   obtain ⟨_,_,cvs,m,g1,g2⟩:=S.st.own _ _ _ _ ⟨ha,q,by intro e; cases e⟩
   have g2:VAll c F R cvs vs:=by
    cases g
    ·exact g2
    ·exact g2.ext (Ext.ofGlob K F R)
   exact reads_lst g1 (fun n=>readsAll_of S.st.hF n g2) 8 k
 | _=>exact reads_of S.st.hF 8 h k
noncomputable def eqV (a b:V):Option Bool:=if kqdOk 8 (dat a) = true ∧ kqdOk 8 (dat b) = true then some (PyData.eqv (kqdP (dat a)) (kqdP (dat b))) else none
noncomputable def inV (x:V) (ys:List V):Option Bool:=if kqdOk 8 (dat x) = true ∧ (datL ys).all (kqdOk 7) = true then some ((kqdPs (datL ys)).any fun y=>PyData.eqv y (kqdP (dat x))) else none
noncomputable abbrev OkU (A:Around):Prop:=A.handled = none ∧ A.units + 100 < cLine
theorem OkU.in1 {A:Around} (gA:OkU A):A.in1.units < cLine:=Nat.lt_of_le_of_lt (Nat.add_le_add_left (by decide) A.units) gA.2
noncomputable def CmpIs (c:Cx) (op:CmpOp) (f:St -> V -> V -> Option Bool):Prop:=∀ (A:Around),OkU A -> ∀ (env:Env) (K F:Heap) (R:Adrs) (σ:St) (s:Shared),Sim c env K F R σ s -> ∀ (ca cb:Value) (a b:V) (r:Bool),
 VIn c F R ca a -> VIn c F R cb b -> f σ a b = some r -> ∀ (Q:Value -> Shared -> Prop),(∀ t,Q (.bool r) { s with toks:=t }) -> wpAny (model c.prog c.w) A (compareOp op ca cb) Q NoE s
section
variable {c:Cx}
noncomputable def cEq (σ:St) (a b:V):Option Bool:=eqV (a.res σ) (b.res σ)
noncomputable def cNe (σ:St) (a b:V):Option Bool:=(eqV (a.res σ) (b.res σ)).map (!·)
theorem eqV_some {a b:V} {r:Bool} (h:eqV a b = some r):kqdOk 8 (dat a) = true ∧ kqdOk 8 (dat b) = true ∧ PyData.eqv (kqdP (dat a)) (kqdP (dat b)) = r:=by
 obtain ⟨k,e⟩:=some_if h
 exact ⟨k.1,k.2,e⟩
theorem isEq:CmpIs c .Eq cEq:=by
 intro A gA env K F R σ s S ca cb a b r ha hb h Q k
 obtain ⟨k1,k2,rfl⟩:=eqV_some h
 obtain ⟨as,ra⟩:=res_reads S ha k1
 obtain ⟨bs,rb⟩:=res_reads S hb k2
 refine eq_dataH ra rb (shaped_of k1) (shaped_of k2) (Nat.lt_of_le_of_lt (Nat.add_le_add_left (by decide) A.units) gA.2) ?_
 exact k _
theorem isNe:CmpIs c .NotEq cNe:=by
 intro A gA env K F R σ s S ca cb a b r ha hb h Q k
 unfold cNe at h
 obtain ⟨r',h',rfl⟩:=Option.map_eq_some_iff.mp h
 obtain ⟨k1,k2,rfl⟩:=eqV_some h'
 obtain ⟨as,ra⟩:=res_reads S ha k1
 obtain ⟨bs,rb⟩:=res_reads S hb k2
 refine ne_dataH ra rb (shaped_of k1) (shaped_of k2) (Nat.lt_of_le_of_lt (Nat.add_le_add_left (by decide) A.units) gA.2) ?_
 exact k _
noncomputable def cLt (_:St):V -> V -> Option Bool:=int2 fun a b=>some (decide (a < b))
noncomputable def cGt (_:St):V -> V -> Option Bool:=int2 fun a b=>some (decide (b < a))
noncomputable def cGe (_:St):V -> V -> Option Bool:=int2 fun a b=>some (decide (b ≤ a))
theorem isLt:CmpIs c .Lt cLt:=by
 intro A gA env K F R σ s S ca cb a b r ha hb h Q k
 obtain ⟨x,y,t,u,h0,rfl,rfl⟩:=int2_in h ha hb
 exact PySem.P.lt_int (Option.some.inj h0 ▸ k _)
theorem isGt:CmpIs c .Gt cGt:=by
 intro A gA env K F R σ s S ca cb a b r ha hb h Q k
 obtain ⟨x,y,t,u,h0,rfl,rfl⟩:=int2_in h ha hb
 exact PySem.P.gt_int (Option.some.inj h0 ▸ k _)
theorem isGe:CmpIs c .GtE cGe:=by
 intro A gA env K F R σ s S ca cb a b r ha hb h Q k
 obtain ⟨x,y,t,u,h0,rfl,rfl⟩:=int2_in h ha hb
 exact PySem.P.ge_int (Option.some.inj h0 ▸ k _)
noncomputable def V.isNone (v:V):Option Bool:=V.casesOn (motive_1:=fun _=>Option Bool) v Option.none (some true) (fun _=>(some false)) (fun _=>(some false)) (fun _=>(some false)) (fun _=>(some false)) (fun _=>(some false)) (fun _=>(some false)) (fun _=>(some false)) (fun _=>(some false)) (fun _ _=>(some false)) (fun _ _ _=>(some false)) (fun _ _=>(some false))
noncomputable def cIs (_:St) (a b:V):Option Bool:=V.casesOn (motive_1:=fun _=>Option Bool) b none a.isNone (fun _=>none) (fun _=>none) (fun _=>none) (fun _=>none) (fun _=>none) (fun _=>none) (fun _=>none) (fun _=>none) (fun _ _=>none) (fun _ _ _=>none) (fun _ _=>none)
noncomputable def cIsNot (σ:St) (a b:V):Option Bool:=(cIs σ a b).map (!·)
theorem cIs_some {σ:St} {a b:V} {r:Bool} (h:cIs σ a b = some r):b = .none ∧ a.isNone = some r:=by
 cases b with
 | none=>exact ⟨rfl,h⟩
 | _=>exact none_some h
theorem isNone_is {F:Heap} {R:Adrs} {cv:Value} {v:V} {r:Bool} (h:VIn c F R cv v) (k:v.isNone = some r):plainIs cv .none = true ∧ (cv == Value.none) = r:=by
 cases h <;> cases k <;> exact ⟨rfl,rfl⟩
theorem isIs:CmpIs c .Is cIs:=by
 intro A gA env K F R σ s S ca cb a b r ha hb h Q k
 obtain ⟨rfl,h⟩:=cIs_some h
 obtain ⟨h1,rfl⟩:=isNone_is ha h
 obtain rfl:cb = .none:=hb.inv
 exact wpAny_is_plain h1 (k _)
theorem isIsNot:CmpIs c .IsNot cIsNot:=by
 intro A gA env K F R σ s S ca cb a b r ha hb h Q k
 obtain ⟨q,h2,rfl⟩:=Option.map_eq_some_iff.mp h
 obtain ⟨rfl,h2⟩:=cIs_some h2
 obtain ⟨h1,rfl⟩:=isNone_is ha h2
 obtain rfl:cb = .none:=hb.inv
 exact wpAny_isNot_plain h1 (k _)
end
noncomputable def getK {κ α:Type} [DecidableEq κ] (es:List (κ × α)) (k:κ):Option α:=(es.find? fun e=>e.1 = k).map (·.2)
noncomputable def putK {κ α:Type} [DecidableEq κ] (es:List (κ × α)) (k:κ) (v:α):List (κ × α):=if es.any (fun e=>e.1 = k) then es.map (fun e=>if e.1 = k then (e.1,v) else e) else es ++ [(k,v)]
section
variable {c:Cx} {F:Heap} {R:Adrs}
theorem IAll.get {xs:List (Int × Value)} {es:List (Int × V)} (h:IAll c F R xs es) (k:Int):(∀ v,getK es k = some v -> ∃ cv,valueAt xs k = some cv ∧ VIn c F R cv v) ∧ (getK es k = none -> valueAt xs k = none):=by
 induction h with
 | nil=>exact ⟨fun v e=>(none_some e),fun _=>rfl⟩
 | @cons k' cv xs v es h1 _ ih =>
  unfold getK valueAt at *
  rw [List.find?_cons,List.find?_cons]
  by_cases e:k' = k
  ·rw [decide_eq_true e]
   exact ⟨fun v' e'=>⟨cv,rfl,Option.some.inj e' ▸ h1⟩,fun e'=>(Option.some_ne_none _ e').elim⟩
  ·rw [decide_eq_false e]
   exact ih
theorem IAll.map {xs:List (Int × Value)} {es:List (Int × V)} (h:IAll c F R xs es) (k:Int) {cv:Value} {v:V} (hv:VIn c F R cv v):IAll c F R (xs.map fun e=>if e.1 = k then (e.1,cv) else e) (es.map fun e=>if e.1 = k then (e.1,v) else e):=by
 induction h with
 | nil=>exact .nil
 | @cons k' cv' xs v' es h1 _ ih =>
  rw [List.map_cons,List.map_cons]
  by_cases e:k' = k
  ·rw [if_pos e,if_pos e]
   exact .cons hv ih
  ·rw [if_neg e,if_neg e]
   exact .cons h1 ih
theorem IAll.snoc {xs:List (Int × Value)} {es:List (Int × V)} (h:IAll c F R xs es) (k:Int) {cv:Value} {v:V} (hv:VIn c F R cv v):IAll c F R (xs ++ [(k,cv)]) (es ++ [(k,v)]):=by
 induction h with
 | nil=>exact .cons hv .nil
 | cons h1 _ ih=>exact .cons h1 ih
theorem IAll.any {xs:List (Int × Value)} {es:List (Int × V)} (h:IAll c F R xs es) (k:Int):xs.any (fun e=>e.1 = k) = es.any (fun e=>e.1 = k):=by
 induction h with
 | nil=>rfl
 | cons _ _ ih=>rw [List.any_cons,List.any_cons,ih]
theorem IAll.put {xs:List (Int × Value)} {es:List (Int × V)} (h:IAll c F R xs es) (k:Int) {cv:Value} {v:V} (hv:VIn c F R cv v):IAll c F R (stored xs k cv) (putK es k v):=by
 unfold stored putK
 rw [h.any]
 split
 ·exact h.map k hv
 ·exact h.snoc k hv
theorem IAll.length {xs:List (Int × Value)} {es:List (Int × V)} (h:IAll c F R xs es):xs.length = es.length:=by
 induction h with
 | nil=>rfl
 | cons _ _ ih=>rw [List.length_cons,List.length_cons,ih]
theorem TAll.get {xs:List (List Int × Addr × Value)} {es:List (List Int × V)} (h:TAll c F R xs es) (k:List Int):(∀ v,getK es k = some v -> ∃ p,atKey xs k = some p ∧ VIn c F R p.2 v) ∧ (getK es k = none -> atKey xs k = none):=by
 induction h using TAll.ind with
 | n=>exact ⟨fun v e=>(none_some e),fun _=>rfl⟩
 | @k k' a cv xs v es h1 hr ih =>
  unfold getK atKey at *
  rw [List.find?_cons,List.find?_cons]
  by_cases e:k' = k
  ·rw [decide_eq_true e]
   exact ⟨fun v' e'=>⟨_,rfl,Option.some.inj e' ▸ h1⟩,fun e'=>(Option.some_ne_none _ e').elim⟩
  ·rw [decide_eq_false e]
   exact ih
theorem TAll.isSome {xs:List (List Int × Addr × Value)} {es:List (List Int × V)} (h:TAll c F R xs es) (k:List Int):(atKey xs k).isSome = (getK es k).isSome:=by
 cases q:getK es k with
 | none=>rw [(h.get k).2 q]; rfl
 | some v=>obtain ⟨p,e,_⟩:=(h.get k).1 v q; rw [e]; rfl
theorem TAll.any {xs:List (List Int × Addr × Value)} {es:List (List Int × V)} (h:TAll c F R xs es) (k:List Int):(es.any fun e=>e.1 = k) = (atKey xs k).isSome:=by
 induction h using TAll.ind with
 | n=>rfl
 | @k k' a cv xs v es h1 hr ih =>
  unfold atKey at *
  rw [List.find?_cons,List.any_cons]
  by_cases e:k' = k
  ·rw [decide_eq_true e]; rfl
  ·rw [decide_eq_false e]
   exact ih
theorem TAll.length {xs:List (List Int × Addr × Value)} {es:List (List Int × V)} (h:TAll c F R xs es):xs.length = es.length:=by
 induction h using TAll.ind with
 | n=>rfl
 | k _ _ ih=>exact congrArg Nat.succ ih
theorem TAll.map {xs:List (List Int × Addr × Value)} {es:List (List Int × V)} (h:TAll c F R xs es) (k:List Int) {cv:Value} {v:V} (hv:VIn c F R cv v):TAll c F R (xs.map (putAt k cv)) (es.map fun e=>if e.1 = k then (e.1,v) else e):=by
 induction h using TAll.ind with
 | n=>exact .nil
 | @k k' a' cv' xs v' es h1 hr ih =>
  rw [List.map_cons,List.map_cons]
  unfold putAt
  by_cases e:k' = k
  ·rw [if_pos e,if_pos e]
   exact .cons hv ih
  ·rw [if_neg e,if_neg e]
   exact .cons h1 ih
theorem TAll.snoc {xs:List (List Int × Addr × Value)} {es:List (List Int × V)} (h:TAll c F R xs es) (k:List Int) (a:Addr) {cv:Value} {v:V} (hv:VIn c F R cv v):TAll c F R (xs ++ [(k,a,cv)]) (es ++ [(k,v)]):=by
 induction h using TAll.ind with
 | n=>exact .cons hv .nil
 | k h1 _ ih=>exact .cons h1 ih
theorem TAll.put {xs:List (List Int × Addr × Value)} {es:List (List Int × V)} (h:TAll c F R xs es) (k:List Int) (a:Addr) {cv:Value} {v:V} (hv:VIn c F R cv v):TAll c F R (storedH xs k a cv) (putK es k v):=by
 unfold storedH putK
 rw [h.any]
 split
 ·exact h.map k hv
 ·exact h.snoc k a hv
end
noncomputable def V.view (σ:St) (v:V):Option O:=V.casesOn (motive_1:=fun _=>Option O) v Option.none Option.none (fun _=>Option.none) (fun _=>Option.none) (fun _=>Option.none) (fun _=>Option.none) (fun vs=>some (.list vs)) (fun ks=>some (.set ks)) (fun _=>Option.none) (fun es=>some (.dctT es)) (fun _ _=>Option.none) (fun _ _ _=>Option.none) (fun g n=>(σ.sel g)[n]?.bind O.live)
section
variable {c:Cx} {env:Env} {K F:Heap} {R:Adrs} {σ:St} {s:Shared}
theorem Sim.sysMods (S:Sim c env K F R σ s) (hb:(c.hb.get? sysModules).isSome = true) {a:Addr} (h:K.get? a = none):(a == sysModules) = false:=by
 cases q:a == sysModules with
 | false=>rfl
 | true =>
  have e:=beq_iff_eq.mp q
  subst e
  obtain ⟨o,ho⟩:=Option.isSome_iff_exists.mp hb
  rw [S.st.base _ _ ho] at h; cases h
set_option tactic.hygienic true in
theorem view_in (S:Sim c env K F R σ s) {cv:Value} {v:V} {o:O} (h:VIn c F R cv v) (k:v.view σ = some o):∃ a,And3 (cv = .ref a) (HIn c F R s.heap a o) (K.get? a = none):=by
 have kn:∀ a q,F.get? a = some q -> K.get? a = none:=fun a q e=>by
  cases z:K.get? a with
  | none=>rfl
  | some y=>rw [S.st.dis a y z] at e; exact none_some e
 cases v with
 | lst vs=>cases k; obtain ⟨a,cvs,n,rfl,g,r⟩:=h.inv; exact ⟨_,rfl,⟨_,_,S.st.hF _ _ g,r⟩,kn _ _ g⟩
 | set ks=>cases k; obtain ⟨a,rfl,g⟩:=h.inv; obtain ⟨q,es,ep,t,ho,x⟩:=g; exact ⟨_,rfl,⟨q,es,ep,t,S.st.hF _ _ ho,x⟩,kn _ _ ho⟩
 | dctT es=>cases k; obtain ⟨a,xs,rfl,g,r⟩:=h.inv; obtain ⟨q,es,ep,ho,x1,x2,x3,x4,x5⟩:=g; exact ⟨_,rfl,⟨_,q,es,ep,S.st.hF _ _ ho,x1,x2,x3,x4,x5,r⟩,kn _ _ ho⟩
 | ref g n =>
  obtain ⟨a,rfl,ha⟩:=h.inv
  refine obind_elim k fun o' e1 e2=>?_
  obtain ⟨rfl,e2⟩:=live_is e2
  obtain ⟨y1,_,y3⟩:=S.st.own g n a _ ⟨ha,e1,e2⟩
  refine ⟨a,rfl,?_,y1⟩
  cases g
  ·exact y3
  ·exact y3.frame (Ext.ofGlob K F R) fun q hq=>hq
 | _=>exact none_some k
theorem view_inE (S:Sim c env K F R σ s) {cv:Value} {v:V} {o:O} (h:VIn c F R cv v) (k:v.view σ = some o) {C:Prop} (f:∀ a,cv = .ref a -> HIn c F R s.heap a o -> K.get? a = none -> C):C:=by
 obtain ⟨a,h1,h2,h3⟩:=view_in S h k
 exact f a h1 h2 h3
theorem list_inE (S:Sim c env K F R σ s) {cv:Value} {v:V} {vs:List V} (h:VIn c F R cv v) (k:(v.view σ).bind O.listed = some vs) {C:Prop} (f:∀ a cvs n,cv = .ref a -> s.heap.get? a = some (seqO "list" cvs n) -> VAll c F R cvs vs -> K.get? a = none -> C):C:=by
 refine obind_elim k fun o k e=>?_
 obtain rfl:=O.listed_some e
 obtain ⟨a,h1,⟨cvs,n,g,r⟩,h3⟩:=view_in S h k
 exact f a cvs n h1 g r h3
end
noncomputable def intsOf:List V -> Option (List Int)
 | []=>some []
 | .int i :: vs=>(intsOf vs).map (i :: ·)
 | _ :: _=>Option.none
noncomputable def V.key (v:V):Option (List Int):=V.casesOn (motive_1:=fun _=>Option (List Int)) v Option.none Option.none (fun _=>Option.none) (fun _=>Option.none) (fun _=>Option.none) intsOf (fun _=>Option.none) (fun _=>Option.none) (fun _=>Option.none) (fun _=>Option.none) (fun _ _=>Option.none) (fun _ _ _=>Option.none) (fun _ _=>Option.none)
section
variable {c:Cx} {F:Heap} {R:Adrs}
theorem ints_are {cvs:List Value} {vs:List V} {ks:List Int} (h:VAll c F R cvs vs) (k:intsOf vs = some ks):ItemsAre c.ik ks cvs:=by
 induction h using VAll.ind generalizing ks with
 | n=>cases k; exact .nil
 | @k cv cvs v vs h1 h2 ih =>
  cases v with
  | int i =>
   obtain ⟨t,rfl⟩:=h1.inv
   refine map_elim k fun ks' k' z2_=>?_
   subst z2_
   exact .cons (intKind_is _ _ i t) (ih k')
  | _=>exact none_some k
theorem key_is {cv:Value} {v:V} {ks:List Int} (h:VIn c F R cv v) (k:v.key = some ks):∃ a,cv = .ref a ∧ c.tk.is F ks a:=by
 cases v with
 | tup vs=>obtain ⟨a,o,cvs,n,rfl,g,g2,g3,r⟩:=h.inv; exact ⟨_,rfl,_,_,_,g,g2,g3,ints_are r k⟩
 | _=>exact none_some k
theorem dct_of {F h:Heap} {R:Adrs} {a:Addr} {es:List (List Int × V)} (hF:F.StaysIn h) (x:HIn c F R h a (.dctT es)):∃ xs,h.DictOfH c.tk a xs ∧ TAll c F R xs es:=by
 obtain ⟨xs,o,des,ep,h1,h2,h3,h4,h5,h6,h7⟩:=x
 exact ⟨xs,⟨o,des,ep,h1,h2,h3,h4,fun y hy=>tkey_stays (h5 y hy) hF,h6⟩,h7⟩
end
noncomputable def cInO (x:V) (o:O):Option Bool:=O.casesOn (motive:=fun _=>Option Bool) o none (inV x) (fun es=>x.asInt.map fun k=>(getK es k).isSome) (fun es=>x.key.map fun ks=>(getK es ks).isSome) (fun ks=>x.asInt.map fun k=>ks.contains k) (fun _=>none)
noncomputable def cIn (σ:St) (x y:V):Option Bool:=V.casesOn (motive_1:=fun _=>Option Bool) y ((y.view σ).bind (cInO x)) ((y.view σ).bind (cInO x)) (fun _=>((y.view σ).bind (cInO x))) (fun _=>((y.view σ).bind (cInO x))) (fun _=>((y.view σ).bind (cInO x))) (inV x) (fun _=>((y.view σ).bind (cInO x))) (fun _=>((y.view σ).bind (cInO x))) (fun _=>((y.view σ).bind (cInO x))) (fun _=>((y.view σ).bind (cInO x))) (fun _ _=>((y.view σ).bind (cInO x))) (fun _ _ _=>((y.view σ).bind (cInO x))) (fun _ _=>((y.view σ).bind (cInO x)))
noncomputable def O.isT (o:O):Bool:=O.casesOn (motive:=fun _=>Bool) o false (fun _=>false) (fun _=>false) (fun _=>true) (fun _=>false) (fun _=>false)
noncomputable def cNotIn (σ:St) (x y:V):Option Bool:=if (y.view σ).any O.isT then Option.none else (cIn σ x y).map (!·)
theorem inV_some {x:V} {ys:List V} {r:Bool} (h:inV x ys = some r):kqdOk 8 (dat x) = true ∧ (∀ d ∈ datL ys,kqdOk 7 d = true) ∧ ((kqdPs (datL ys)).any fun y=>PyData.eqv y (kqdP (dat x))) = r:=by
 refine some_ifE h fun k e=>?_
 exact ⟨k.1,List.all_eq_true.mp k.2,e⟩
theorem kqdOk_up (n:Nat):∀ (d:Dat),kqdOk n d = true -> kqdOk (n + 1) d = true:=by
 induction n with
 | zero =>
  intro d h
  cases d with
  | tuple ds=>cases h
  | list ds=>cases h
  | _=>exact h
 | succ n ih =>
  intro d h
  cases d with
  | tuple ds=>exact List.all_eq_true.mpr fun d hd=>ih d (List.all_eq_true.mp h d hd)
  | list ds=>exact List.all_eq_true.mpr fun d hd=>ih d (List.all_eq_true.mp h d hd)
  | _=>exact h
open Classical in
theorem any_in {x:V} {ys:List V} (h1:kqdOk 8 (dat x) = true) (h2:∀ d ∈ datL ys,kqdOk 7 d = true):((kqdPs (datL ys)).any fun y=>PyData.eqv y (kqdP (dat x))) = decide (dat x ∈ datL ys):=by
 have q:=kqd_any (datL ys) (dat x) (fun d hd=>kqdOk_up 7 d (h2 d hd)) h1
 by_cases e:dat x ∈ datL ys
 ·rw [decide_eq_true e]; exact q.mpr e
 ·rw [decide_eq_false e]; exact Bool.eq_false_iff.mpr fun z=>e (q.mp z)
section
variable {c:Cx} {d:Nat} {env:Env}
noncomputable def BaseOK (c:Cx):Prop:=(c.hb.get? sysModules).isSome = true
theorem in_core {A:Around} (gA:OkU A) (hb:BaseOK c) {K F:Heap} {R:Adrs} {σ:St} {s:Shared} (S:Sim c env K F R σ s) {ca cb:Value} {a b:V} {r:Bool} (ha:VIn c F R ca a) (hc:VIn c F R cb b) (h:cIn σ a b = some r)
  {Q:Value -> Shared -> Prop} {neg:Bool} (hneg:neg = true -> (b.view σ).any O.isT = false) (fin:∀ t,Q (.bool (cond neg (!r) r)) { s with toks:=t }):wpAny (model c.prog c.w) A (compareOp (if neg then .NotIn else .In) ca cb) Q NoE s:=by
 have seq:∀ {cvs:List Value} {vs:List V} {T:String} {x:Addr} {n:Nat},∀ {o:Obj},VAll c F R cvs vs -> s.heap.get? x = some o -> o.cls = .type T -> o.data = .seq cvs.toArray n -> T = "list" ∨ T = "tuple" -> inV a vs = some r ->
   wpAny (model c.prog c.w) A (compareOp (if neg then .NotIn else .In) ca (.ref x)) Q NoE s:=by
  intro cvs vs T x n o g2 g1 gc gd hT hi
  obtain ⟨k1,k2,rfl⟩:=inV_some hi
  obtain ⟨as,ra⟩:=reads_of S.st.hF 8 ha k1
  obtain ⟨bs,rb⟩:=readsAll_of S.st.hF 7 g2 k2
  have l:=kqd_layL (ds:=datL vs) fun d hd=>kqdOk_up 7 d (k2 d hd)
  have ld:=kqd_lay 8 (dat a) k1
  have hu:A.units + 1 + min (PyData.depthAll (kqdPs (datL vs))) (kqdP (dat a)).depth < cLine:=by
   have:=Nat.min_le_right (PyData.depthAll (kqdPs (datL vs))) (kqdP (dat a)).depth
   have:=ld.2
   have:=gA.2
   lia
  rcases hT with rfl | rfl <;> cases neg
  ·exact SeqAt.in_list_reads (reads_list_at g1 gc gd rb) ra l.1 ld.1 hu (fin s.toks)
  ·exact SeqAt.notIn_list_reads (reads_list_at g1 gc gd rb) ra l.1 ld.1 hu (fin s.toks)
  ·exact SeqAt.in_tuple_reads (reads_tuple_at g1 gc gd rb) ra l.1 ld.1 hu (fin s.toks)
  ·exact SeqAt.notIn_tuple_reads (reads_tuple_at g1 gc gd rb) ra l.1 ld.1 hu (fin s.toks)
 have gen:(b.view σ).bind (cInO a) = some r -> wpAny (model c.prog c.w) A (compareOp (if neg then .NotIn else .In) ca cb) Q NoE s:=fun hv=>by
  refine obind_elim hv fun o e1 e2=>?_
  refine view_inE S hc e1 fun x z1_ hi hk=>?_
  subst z1_
  cases o with
  | list vs =>
   obtain ⟨cvs,n,g1,g2⟩:=hi
   exact seq g2 g1 rfl rfl (.inl rfl) e2
  | set ks =>
   refine map_elim e2 fun i k e2=>?_
   ·obtain ⟨t,rfl⟩:=asInt_in ha k
    subst e2
    cases neg
    ·exact wpAny_inSet_of (intKind_is _ _ _ _) rfl (SetL.of hi) (fin (s.toks + 1))
    ·exact wpAny_notInSet_of (intKind_is _ _ _ _) rfl (SetL.of hi) (fin (s.toks + 1))
  | dctI es =>
   refine map_elim e2 fun i k e2=>?_
   ·obtain ⟨t,rfl⟩:=asInt_in ha k
    subst e2
    obtain ⟨xs,h1,h2⟩:=hi
    have e:∀ i,(valueAt xs i).isSome = (getK es i).isSome:=fun i=>by
     cases q:getK es i with
     | none=>rw [(h2.get i).2 q]; rfl
     | some v=>obtain ⟨cv,e,_⟩:=(h2.get i).1 v q; rw [e]; rfl
    have hm:=S.sysMods hb hk
    cases neg
    ·exact wpAny_in_of (intKind_is _ _ _ _) hm h1.mapOf (by rw [e]; exact fin (s.toks + 1))
    ·exact wpAny_notIn_of (intKind_is _ _ _ _) hm h1.mapOf (by rw [e]; exact fin (s.toks + 1))
  | dctT es =>
   refine map_elim e2 fun ks hks e2=>?_
   ·subst e2
    obtain ⟨y,rfl,hy⟩:=key_is ha hks
    obtain ⟨xs,h1,h2⟩:=dct_of S.st.hF hi
    have hm:=S.sysMods hb hk
    have hy':=tkey_stays hy S.st.hF
    cases neg
    ·exact wpAny_in_heap gA.in1 hy' hm h1 (by rw [h2.isSome]; exact fin (s.toks + c.tk.draws ks))
    ·have:=hneg rfl; rw [e1] at this; cases this
  | _=>exact none_some e2
 cases b with
 | tup vs =>
  obtain ⟨x,o,cvs,n,rfl,g1,gc,gd,g2⟩:=hc.inv
  exact seq g2 (S.st.hF _ _ g1) gc gd (.inr rfl) h
 | _=>exact gen h
theorem isIn (hb:BaseOK c):CmpIs c .In cIn:=by
 intro A gA env K F R σ s S ca cb a b r ha hc h Q k
 exact in_core (neg:=false) gA hb S ha hc h (fun e=>by cases e) k
theorem isNotIn (hb:BaseOK c):CmpIs c .NotIn cNotIn:=by
 intro A gA env K F R σ s S ca cb a b r ha hc h Q k
 unfold cNotIn at h
 refine hG9 fun P_ b_=>?_
 split at h
 ·exact none_some h
 ·rename_i hn
  refine map_elim h fun q h2 z2_=>?_
  subst z2_
  refine b_ ?_; clear b_ P_
  exact in_core (neg:=true) gA hb S ha hc h2 (fun _=>by simpa using hn) k
theorem GoodA.u {A:Around} {d:Nat} (h:GoodA A d):OkU A:=⟨h.1,Nat.lt_of_lt_of_le (Nat.add_lt_add_right (Nat.lt_of_le_of_lt (Nat.le_add_right _ _) h.2.2) 100) (by decide)⟩
noncomputable def mCmp (f:St -> V -> V -> Option Bool) (a b:AM V):AM V:=do let x ← a; let y ← b; fun σ=>(f σ x y).map fun r=>(.bool r,σ)
noncomputable def tCmp (f:St -> V -> V -> Option Bool) (a b:AM V):AM Bool:=do let x ← a; let y ← b; fun σ=>(f σ x y).map fun r=>(r,σ)
theorem rCmp {op:CmpOp} {f:St -> V -> V -> Option Bool} (hf:CmpIs c op f) {l r:PySem.Expr} {pos:Pos} {ml mr:AM V} (h1:RE c d env (eval l env) ml) (h2:RE c d env (eval r env) mr) (hm:behindInMarks op r = false:=by with_unfolding_all rfl) :
  RE c d env (eval (.Compare l [op] [r] pos) env) (mCmp f ml mr):=by
 refine ⟨fun A gA K F R σ s S v σ' h=>?_⟩
 refine hG9 fun P_ b_=>?_
 revert h
 refine AM.bind_elim fun x σ1 e1 h=>?_
 revert h
 refine AM.bind_elim fun y σ2 e2 h=>?_
 refine map_elim h fun q e3 h=>?_
 cases h
 refine b_ ?_; clear b_ P_
 refine wpAny_Compare1 (h1.go gA S e1 fun ca F1 R1 s1 X1 S1 V1=>h2.go gA S1 e2 fun cb F2 R2 s2 X2 S2 V2=>?_) hm
 exact hf A gA.u _ _ _ _ _ _ S2 ca cb x y q (V1.ext X2) V2 e3 _ fun t=>⟨F2,R2,X1.trans X2,S2.tok t,.bool _⟩
noncomputable def RT (c:Cx) (d:Nat) (env:Env) (e:PySem.Expr) (m:AM Bool):Prop:=∀ whole,whole = eval e env -> RB c d env (isTrue e env whole) m
theorem rtCmp {op:CmpOp} {f:St -> V -> V -> Option Bool} (hf:CmpIs c op f) {l r:PySem.Expr} {pos:Pos} {ml mr:AM V} (h1:RE c d env (eval l env) ml) (h2:RE c d env (eval r env) mr) (hm:behindInMarks op r = false:=by with_unfolding_all rfl) :
  RT c d env (.Compare l [op] [r] pos) (tCmp f ml mr):=by
 refine fun whole _=>⟨fun A gA K F R σ s S v σ' h=>?_⟩
 refine hG9 fun P_ b_=>?_
 revert h
 refine AM.bind_elim fun x σ1 e1 h=>?_
 revert h
 refine AM.bind_elim fun y σ2 e2 h=>?_
 refine map_elim h fun q e3 h=>?_
 cases h
 refine b_ ?_; clear b_ P_
 refine wpAny_isTrue_Compare1 (h1.go gA S e1 fun ca F1 R1 s1 X1 S1 V1=>h2.go gA S1 e2 fun cb F2 R2 s2 X2 S2 V2=>?_) hm
 exact hf A gA.u _ _ _ _ _ _ S2 ca cb x y _ (V1.ext X2) V2 e3 _ fun t=>wpAny_truthy_bool ⟨F2,R2,X1.trans X2,S2.tok t,rfl⟩
noncomputable def tAnd:List (AM Bool) -> AM Bool
 | []=>pure true
 | m :: ms=>do let b ← m; if b then tAnd ms else pure false
noncomputable def tOr:List (AM Bool) -> AM Bool
 | []=>pure false
 | m :: ms=>do let b ← m; if b then pure true else tOr ms
inductive RTs (c:Cx) (d:Nat) (env:Env):List PySem.Expr -> List (AM Bool) -> Prop
 | nil:RTs c d env [] []
 | cons {e:PySem.Expr} {es:List PySem.Expr} {m:AM Bool} {ms:List (AM Bool)}:RT c d env e m -> RTs c d env es ms -> RTs c d env (e :: es) (m :: ms)
theorem rtAnd_core {es:List PySem.Expr} {ms:List (AM Bool)} (h:RTs c d env es ms) {pos:Pos} {whole:Sem Value}:RB c d env (isTrue (.BoolOp .And es pos) env whole) (tAnd ms):=by
 induction h with
 | nil =>
  refine ⟨fun A gA K F R σ s S v σ' h=>?_⟩
  refine some2E h fun z0_ z1_=>?_
  subst z0_
  subst z1_
  exact isTrue_and_nil ⟨F,R,Ext.refl ..,S,rfl⟩
 | cons h1 _ ih =>
  refine ⟨fun A gA K F R σ s S v σ' h=>?_⟩
  revert h
  refine AM.bind_elim fun b σ1 e1 h=>?_
  refine isTrue_and ((h1 _ rfl).go gA S e1 fun b' F1 R1 s1 X1 S1 e=>?_)
  subst e
  cases b' with
  | true=>exact ih.go gA S1 h fun b'' F2 R2 s2 X2 S2 e=>⟨F2,R2,X1.trans X2,S2,e⟩
  | false=>cases h; exact ⟨F1,R1,X1,S1,rfl⟩
theorem rtOr_core {es:List PySem.Expr} {ms:List (AM Bool)} (h:RTs c d env es ms) {pos:Pos} {whole:Sem Value}:RB c d env (isTrue (.BoolOp .Or es pos) env whole) (tOr ms):=by
 induction h with
 | nil =>
  refine ⟨fun A gA K F R σ s S v σ' h=>?_⟩
  refine some2E h fun z0_ z1_=>?_
  subst z0_
  subst z1_
  exact isTrue_or_nil ⟨F,R,Ext.refl ..,S,rfl⟩
 | cons h1 _ ih =>
  refine ⟨fun A gA K F R σ s S v σ' h=>?_⟩
  revert h
  refine AM.bind_elim fun b σ1 e1 h=>?_
  refine isTrue_or ((h1 _ rfl).go gA S e1 fun b' F1 R1 s1 X1 S1 e=>?_)
  subst e
  cases b' with
  | true=>cases h; exact ⟨F1,R1,X1,S1,rfl⟩
  | false=>exact ih.go gA S1 h fun b'' F2 R2 s2 X2 S2 e=>⟨F2,R2,X1.trans X2,S2,e⟩
theorem rtAnd {es:List PySem.Expr} {ms:List (AM Bool)} {pos:Pos} (h:RTs c d env es ms):RT c d env (.BoolOp .And es pos) (tAnd ms):=fun _ _=>rtAnd_core h
theorem rtOr {es:List PySem.Expr} {ms:List (AM Bool)} {pos:Pos} (h:RTs c d env es ms):RT c d env (.BoolOp .Or es pos) (tOr ms):=fun _ _=>rtOr_core h
noncomputable def tNot (m:AM Bool):AM Bool:=do let b ← m; pure (!b)
theorem rtNot {e:PySem.Expr} {m:AM Bool} {pos:Pos} (h1:RT c d env e m):RT c d env (.UnaryOp .Not e pos) (tNot m):=by
 refine fun whole _=>⟨fun A gA K F R σ s S v σ' h=>?_⟩
 revert h
 refine AM.bind_elim fun b σ1 e1 h=>?_
 refine some2E h fun z0_ z1_=>?_
 subst z0_
 subst z1_
 exact isTrue_not ((h1 _ rfl).go gA S e1 fun b' F1 R1 s1 X1 S1 e=>⟨F1,R1,X1,S1,by rw [e]⟩)
noncomputable def O.full (o:Option O):Option Bool:=(o.bind O.listed).bind fun vs=>if vs.length < lid then some (!vs.isEmpty) else none
noncomputable def V.truth (σ:St) (v:V):Option Bool:=V.casesOn (motive_1:=fun _=>Option Bool) v (O.full (v.view σ)) (some false) some (fun i=>some (i != 0)) (fun _=>(O.full (v.view σ))) (fun _=>(O.full (v.view σ))) (fun _=>(O.full (v.view σ))) (fun _=>(O.full (v.view σ))) (fun _=>(O.full (v.view σ))) (fun _=>(O.full (v.view σ))) (fun _ _=>(O.full (v.view σ))) (fun _ _ _=>(O.full (v.view σ))) (fun _ _=>(O.full (v.view σ)))
noncomputable def tVal (m:AM V):AM Bool:=do let v ← m; fun σ=>(v.truth σ).map fun b=>(b,σ)
theorem truth_is {A:Around} (gA:OkU A) {K F:Heap} {R:Adrs} {σ:St} {s:Shared} (S:Sim c env K F R σ s) {cv:Value} {v:V} {r:Bool} (h:VIn c F R cv v) (k:v.truth σ = some r) {Q:Bool -> Shared -> Prop} (q:∀ t,Q r { s with toks:=t }) :
  wpAny (model c.prog c.w) A (truthy cv) Q NoE s:=by
 have lst:∀ vs,(v.view σ).bind O.listed = some vs -> vs.length < lid -> r = (!vs.isEmpty) -> wpAny (model c.prog c.w) A (truthy cv) Q NoE s:=by
  intro vs hv hl hr
  refine list_inE S h hv fun a cvs n z1_ g1 g2 _=>?_
  subst z1_
  have hlen:=g2.length
  have hlid:vs.length < 1048576:=hl
  refine wpAny_truthy_list ⟨_,g1,rfl,n,rfl⟩ (Int.ofNat_lt.mpr (by rw [List.size_toArray,hlen]; exact Nat.lt_trans hlid (by decide))) ?_
  have:cvs.toArray.isEmpty = vs.isEmpty:=by rw [List.isEmpty_toArray,Bool.eq_iff_iff,List.isEmpty_iff_length_eq_zero,List.isEmpty_iff_length_eq_zero,hlen]
  subst hr
  have z:=q (s.toks + 1 + 1)
  rw [← this] at z
  exact z
 have gen:O.full (v.view σ) = some r -> wpAny (model c.prog c.w) A (truthy cv) Q NoE s:=fun k=>by
  refine obind_elim k fun vs hv k=>some_ifE k fun k1 k2=>?_
  exact lst vs hv k1 k2.symm
 cases v with
 | none=>obtain rfl:cv = .none:=h.inv; exact truthy_none (Option.some.inj k ▸ q s.toks)
 | bool b=>obtain rfl:cv = .bool b:=h.inv; exact wpAny_truthy_bool (Option.some.inj k ▸ q s.toks)
 | int i=>obtain ⟨t,rfl⟩:=h.inv; exact PySem.P.truthy_int (Option.some.inj k ▸ q s.toks)
 | _=>exact gen k
theorem rtVal {e:PySem.Expr} {m:AM V} (h1:RE c d env (eval e env) m) (he:∀ whole,isTrue e env whole = (do let v ← whole; standAt e.pos; holding [v] (truthy v)):=by intro _; rfl):RT c d env e (tVal m):=by
 rintro whole rfl
 refine ⟨fun A gA K F R σ s S v σ' h=>?_⟩
 refine hG9 fun P_ b_=>?_
 revert h
 refine AM.bind_elim fun x σ1 e1 h=>?_
 refine map_elim h fun b e2 h=>?_
 cases h
 refine b_ ?_; clear b_ P_
 refine isTrue_plain (h1.go gA S e1 fun ca F1 R1 s1 X1 S1 V1=>?_) (he _)
 exact truth_is gA.u S1 V1 e2 fun t=>⟨F1,R1,X1,S1.tok t,rfl⟩
noncomputable def mIf (t:AM Bool) (a b:AM V):AM V:=do let x ← t; if x then a else b
theorem rIf {t a b:PySem.Expr} {pos:Pos} {mt:AM Bool} {ma mb:AM V} (h1:RT c d env t mt) (h2:RE c d env (eval a env) ma) (h3:RE c d env (eval b env) mb):RE c d env (eval (.IfExp t a b pos) env) (mIf mt ma mb):=by
 refine ⟨fun A gA K F R σ s S v σ' h=>?_⟩
 revert h
 refine AM.bind_elim fun x σ1 e1 h=>?_
 refine IfExp_ ((h1 _ rfl).go gA S e1 fun b' F1 R1 s1 X1 S1 e=>?_)
 subst e
 cases b' with
 | true=>exact h2.go gA S1 h fun cv F2 R2 s2 X2 S2 V2=>⟨F2,R2,X1.trans X2,S2,V2⟩
 | false=>exact h3.go gA S1 h fun cv F2 R2 s2 X2 S2 V2=>⟨F2,R2,X1.trans X2,S2,V2⟩
noncomputable def mAnd:List (AM V) -> AM V
 | []=>failure
 | [m]=>m
 | m :: ms=>do let v ← m; match v with | .bool true=>mAnd ms | .bool false=>pure (.bool false) | _=>failure
inductive REs (c:Cx) (d:Nat) (env:Env):List PySem.Expr -> List (AM V) -> Prop
 | nil:REs c d env [] []
 | cons {e:PySem.Expr} {es:List PySem.Expr} {m:AM V} {ms:List (AM V)}:RE c d env (eval e env) m -> REs c d env es ms -> REs c d env (e :: es) (m :: ms)
theorem rAnd {es:List PySem.Expr} {ms:List (AM V)} {pos:Pos} (h:REs c d env es ms):RE c d env (eval (.BoolOp .And es pos) env) (mAnd ms):=by
 induction h with
 | nil=>refine ⟨fun A gA K F R σ s S v σ' h=>?_⟩; exact none_some h
 | @cons e es m ms h1 hr ih =>
  cases hr with
  | nil=>exact h1
  | @cons e2 es2 m2 ms2 h2 hr2 =>
   refine ⟨fun A gA K F R σ s S v σ' h=>?_⟩
   revert h
   refine AM.bind_elim fun x σ1 e1 h=>?_
   refine BoolOp_and (h1.go gA S e1 fun ca F1 R1 s1 X1 S1 V1=>?_)
   cases x with
   | bool b =>
    obtain rfl:ca = .bool b:=V1.inv
    refine wpAny_truthy_bool ?_
    cases b with
    | true=>exact ih.go gA S1 h fun cv F2 R2 s2 X2 S2 V2=>⟨F2,R2,X1.trans X2,S2,V2⟩
    | false=>cases h; exact ⟨F1,R1,X1,S1,.bool _⟩
   | _=>exact none_some h
end
structure ClsOK (c:Cx) (C:Addr) (names:List Str):Prop where
 X:c.fr.In c.hb
 hd:∃ cd,clsIn c.fr C = some cd ∧ cd.hasDict = true
 ga:findIn c.fr (.ref C) "__getattribute__" = some (some (.builtin "object.__getattribute__"))
 sa:findIn c.fr (.ref C) "__setattr__" = some (some (.builtin "object.__setattr__"))
 po:plainOver c.fr C = true
 nm:∀ x ∈ names,findIn c.fr (.ref C) x = some none
noncomputable def instO (C:Addr) (o:O):Option (Addr × List (Str × V)):=O.casesOn o none (fun _=>none) (fun _=>none) (fun _=>none) (fun _=>none) fun fs=>some (C,fs)
theorem instO_is {C:Addr} {o:O} {p:Addr × List (Str × V)} (h:instO C o = some p):o = .inst p.2:=by
 cases o with
 | inst fs=>cases h; rfl
 | _=>exact none_some h
noncomputable def V.fields (σ:St) (v:V):Option (Addr × List (Str × V)):=V.casesOn (motive_1:=fun _=>Option (Addr × List (Str × V))) v Option.none Option.none (fun _=>Option.none) (fun _=>Option.none) (fun _=>Option.none) (fun _=>Option.none) (fun _=>Option.none) (fun _=>Option.none) (fun _=>Option.none) (fun _=>Option.none) (fun C fs=>some (C,fs)) (fun g C n=>(σ.sel g)[n]?.bind (instO C)) (fun _ _=>Option.none)
section
variable {c:Cx} {F:Heap} {R:Adrs}
theorem VIn.handed {cv:Value} {v:V} (h:VIn c F R cv v):handedIn cv = true:=by cases h <;> rfl
theorem FAll.length {es:List DictEntry} {fs:List (Str × V)} (h:FAll c F R es fs):es.length = fs.length:=by
 induction h using FAll.ind with
 | n=>rfl
 | k _ _ ih=>exact congrArg Nat.succ ih
theorem FAll.find {es:List DictEntry} {fs:List (Str × V)} (h:FAll c F R es fs) (nd:(fs.map (·.1)).Nodup) {i:Nat} {x:Str} {v:V} (hi:fs[i]? = some (x,v)) :
  ∃ en,And4 (es[i]? = some en) (es.find? (fun e=>e.key.isStr x) = some en) (es.findIdx? (fun e=>e.key.isStr x) = some i) (VIn c F R en.val v):=by
 induction h using FAll.ind generalizing i with
 | n=>exact none_some hi
 | @k hh y t cv es v' fs h1 hr ih =>
  rw [List.map_cons,List.nodup_cons] at nd
  cases i with
  | zero =>
   obtain ⟨rfl,rfl⟩:=Prod.mk.inj (Option.some.inj hi)
   have hq:({ hash:=hh,key:=.str y t,val:=cv }:DictEntry).key.isStr y = true:=beq_self_eq_true y
   exact ⟨_,rfl,by rw [List.find?_cons,hq],by rw [List.findIdx?_cons,hq]; rfl,h1⟩
  | succ i =>
   have hne:(y == x) = false:=beq_eq_false_iff_ne.mpr fun e=>nd.1 (e ▸ List.mem_map.mpr ⟨_,List.mem_of_getElem? hi,rfl⟩)
   obtain ⟨en,e1,e2,e3,e4⟩:=ih nd.2 hi
   have hq:({ hash:=hh,key:=.str y t,val:=cv }:DictEntry).key.isStr x = false:=hne
   exact ⟨en,e1,by rw [List.find?_cons,hq]; exact e2,by rw [List.findIdx?_cons,hq,e3]; rfl,e4⟩
end
theorem fields_in {c:Cx} {env:Env} {K F:Heap} {R:Adrs} {σ:St} {s:Shared} (S:Sim c env K F R σ s) {cv:Value} {v:V} {C:Addr} {fs:List (Str × V)} (h:VIn c F R cv v) (k:v.fields σ = some (C,fs)) :
  Ex4 fun a d es n=>And5 (cv = .ref a) (s.heap.get? a = some (instObj C d)) (s.heap.get? d = some (dicO es n)) (FAll c F R es fs) ((fs.map (·.1)).Nodup):=by
 cases v with
 | inst C' fs' =>
  refine some2E k fun z0_ z1_=>?_
  subst z0_
  subst z1_
  obtain ⟨a,d,es,n,rfl,g1,g2,r,nd⟩:=h.inv
  exact ⟨_,_,_,_,rfl,S.st.hF _ _ g1,S.st.hF _ _ g2,r,nd⟩
 | obj g C' n =>
  obtain ⟨a,d,rfl,g1,g2⟩:=h.inv
  refine obind_elim k fun o hq k=>?_
  cases o with
  | inst fs' =>
   refine some2E k fun z0_ z1_=>?_
   subst z0_
   subst z1_
   obtain ⟨_,_,es,m,h1,h2,h3⟩:=S.st.own _ _ _ _ ⟨g2,hq,by intro e; cases e⟩
   refine ⟨a,d,es,m,rfl,S.st.hF _ _ g1,h1,?_,h3⟩
   cases g
   ·exact h2
   ·exact h2.ext (Ext.ofGlob K F R)
  | _=>exact none_some k
 | _=>exact none_some k
theorem Sim.X {c:Cx} {env:Env} {K F:Heap} {R:Adrs} {σ:St} {s:Shared} (S:Sim c env K F R σ s) (X:c.fr.In c.hb):c.fr.In s.heap:=fun a o e=>S.st.hK _ _ (S.st.base _ _ (X a o e))
noncomputable def attrOf (C:Addr) (i:Nat) (x:Str) (σ:St) (v:V):Option V:=(v.fields σ).bind fun p=>p.2[i]?.bind fun q=>if p.1 = C ∧ q.1 = x then some q.2 else none
noncomputable def mAttr (C:Addr) (i:Nat) (x:Str) (m:AM V):AM V:=do let v ← m; fun σ=>(attrOf C i x σ v).map fun u=>(u,σ)
theorem attrOf_some {C:Addr} {i:Nat} {x:Str} {σ:St} {v u:V} (h:attrOf C i x σ v = some u):∃ fs,v.fields σ = some (C,fs) ∧ fs[i]? = some (x,u):=by
 refine obind_elim h fun z0_ hv h=>?_
 obtain ⟨C',fs⟩:=z0_
 refine obind_elim h fun z0_ hi h=>?_
 obtain ⟨y,w⟩:=z0_
 refine some_ifE h fun z0_ z1_=>?_
 obtain ⟨rfl,rfl⟩:=z0_
 subst z1_
 exact ⟨fs,hv,hi⟩
theorem mAttr_some {C:Addr} {i:Nat} {x:Str} {m:AM V} {σ:St} {r:V × St} (h:mAttr C i x m σ = some r):Ex2 fun v fs=>And3 (m σ = some (v,r.2)) (v.fields r.2 = some (C,fs)) (fs[i]? = some (x,r.1)):=by
 refine hG9 fun P_ b_=>?_
 revert h
 refine AM.bind_elim fun v σ1 e1 h=>?_
 refine map_elim h fun u e2 h=>?_
 cases h
 obtain ⟨fs,e3,e4⟩:=attrOf_some e2
 refine b_ ?_; clear b_ P_
 exact ⟨v,fs,e1,e3,e4⟩
section
variable {c:Cx} {d:Nat} {env:Env}
theorem getAttr_is {A:Around} {K F:Heap} {R:Adrs} {σ:St} {s:Shared} (S:Sim c env K F R σ s) {C:Addr} {names:List Str} (ck:ClsOK c C names) {x:Str} (hx:x ∈ names) {cv:Value} {v u:V} {fs:List (Str × V)} {i:Nat}
  (h:VIn c F R cv v) (k:v.fields σ = some (C,fs)) (hi:fs[i]? = some (x,u)) {expr:Bool} {Q:Value -> Shared -> Prop} (q:∀ cu t,VIn c F R cu u -> Q cu { s with toks:=t }) :
  wpAny (model c.prog c.w) A (getAttr cv x expr) Q NoE s:=by
 refine hG9 fun P_ b_=>?_
 obtain ⟨a,dx,es,n,rfl,h1,h2,h3,h4⟩:=fields_in S h k
 obtain ⟨en,e1,e2,_,e4⟩:=h3.find h4 hi
 obtain ⟨cd,hc,hd⟩:=ck.hd
 have hl:lookIn x (dicO es n) = some (some en.val):=by
  unfold lookIn
  show (match es.toArray.toList.find? (·.key.isStr x) with | some e=>some (some e.val) | none=>_) = _
  rw [List.toList_toArray,e2]
 have hf:findObj c.fr C (some (dicO es n)) x = some (.value en.val):=by
  unfold findObj
  rw [hc,Option.bind_some,ck.nm x hx,Option.bind_some]
  show (W.ownOf cd (some (dicO es n)) x).bind _ = _
  unfold W.ownOf
  rw [hd,if_pos rfl]
  show (lookIn x (dicO es n)).bind _ = _
  rw [hl]; rfl
 refine b_ ?_; clear b_ P_
 exact get_value (S.X ck.X) ⟨h1,rfl,rfl,h2⟩ ck.ga hf e4.handed (q _ _ e4)
theorem rAttr {C:Addr} {names:List Str} (ck:ClsOK c C names) {x:Str} {i:Nat} {e:PySem.Expr} {pos:Pos} {m:AM V} (hx:x ∈ names) (h1:RE c d env (eval e env) m)
  (he:eval (.Attribute e x pos) env = (do
   let o ← eval e env
   standAt pos.atName
   let r ← holding [o] (getAttr o x true)
   letTemporaryGo e o r
   pure r):=by with_unfolding_all rfl):RE c d env (eval (.Attribute e x pos) env) (mAttr C i x m):=by
 refine ⟨fun A gA K F R σ s S v σ' h=>?_⟩
 obtain ⟨u,fs,e1,e2,e3⟩:=mAttr_some h
 exact Attribute_any_ (h1.go gA S e1 fun ca F1 R1 s1 X1 S1 V1=>getAttr_is S1 ck hx V1 e2 e3 fun cu t V2=>⟨F1,R1,X1,S1.tok t,V2⟩) he
theorem seqIndex_pos {k:Int} {n:Nat} (h0:0 ≤ k) (h1:k.toNat < n):seqIndex? k n = some k.toNat:=by
 have h:(decide (0 ≤ k) && decide (k < n)) = true:=by rw [Bool.and_eq_true,decide_eq_true_eq,decide_eq_true_eq]; exact ⟨h0,(Int.toNat_lt h0).mp h1⟩
 unfold seqIndex?
 dsimp only
 rw [if_neg (Int.not_lt.mpr h0)]
 exact if_pos h
noncomputable def listAt (vs:List V) (k:Int):Option V:=if 0 ≤ k ∧ k < 2 ^ 63 then vs[k.toNat]? else if -(vs.length:Int) ≤ k ∧ k < 0 ∧ -(2 ^ 63) ≤ k then vs[(k + vs.length).toNat]? else none
noncomputable def getO (o:O) (y:V):Option V:=O.casesOn (motive:=fun _=>Option V) o none (fun vs=>y.asInt.bind (listAt vs)) (fun es=>y.asInt.bind (getK es)) (fun es=>y.key.bind (getK es)) (fun _=>none) (fun _=>none)
noncomputable def getIdx (σ:St) (x y:V):Option V:=V.casesOn (motive_1:=fun _=>Option V) x ((x.view σ).bind fun o=>getO o y) ((x.view σ).bind fun o=>getO o y) (fun _=>((x.view σ).bind fun o=>getO o y)) (fun _=>((x.view σ).bind fun o=>getO o y)) (fun _=>((x.view σ).bind fun o=>getO o y)) (fun vs=>y.asInt.bind fun k=>if 0 ≤ k ∧ k < 2 ^ 63 then vs[k.toNat]? else none) (fun _=>((x.view σ).bind fun o=>getO o y)) (fun _=>((x.view σ).bind fun o=>getO o y)) (fun _=>((x.view σ).bind fun o=>getO o y)) (fun _=>((x.view σ).bind fun o=>getO o y)) (fun _ _=>((x.view σ).bind fun o=>getO o y)) (fun _ _ _=>((x.view σ).bind fun o=>getO o y)) (fun _ _=>((x.view σ).bind fun o=>getO o y))
noncomputable def mIdx (a i:AM V):AM V:=do let x ← a; let y ← i; fun σ=>(getIdx σ x y).map fun v=>(v,σ)
theorem getElem_if {p:Prop} [Decidable p] {α:Type} {a:Option α} {r:α} (h:(if p then a else none) = some r):p ∧ a = some r:=by
 by_cases q:p
 ·rw [if_pos q] at h; exact ⟨q,h⟩
 ·rw [if_neg q] at h; exact none_some h
theorem getItem_is {A:Around} (gA:OkU A) {K F:Heap} {R:Adrs} {σ:St} {s:Shared} (S:Sim c env K F R σ s) {cx cy:Value} {x y r:V} (hx:VIn c F R cx x) (hy:VIn c F R cy y) (h:getIdx σ x y = some r) :
  Ex2 fun (T id:String)=>And3 (s.TypeIs cx T) (typeLookup (.type T) "__getitem__" = pure (some (.builtin id))) (∀ {Q:Value -> Shared -> Prop},(∀ cv t,VIn c F R cv r -> Q cv { s with toks:=t }) -> wpAny (model c.prog c.w) A (getItem cx cy) Q NoE s):=by
 have gen:((x.view σ).bind fun o=>getO o y) = some r -> Ex2 fun (T id:String)=>And3 (s.TypeIs cx T) (typeLookup (.type T) "__getitem__" = pure (some (.builtin id))) (∀ {Q:Value -> Shared -> Prop},(∀ cv t,VIn c F R cv r -> Q cv { s with toks:=t }) -> wpAny (model c.prog c.w) A (getItem cx cy) Q NoE s):=fun h=>by
  refine obind_elim h fun o e hv=>?_
  refine view_inE S hx e fun a z1_ hi _=>?_
  subst z1_
  cases o with
  | list vs =>
   refine obind_elim hv fun k hk hv=>?_
   obtain ⟨t,rfl⟩:=asInt_in hy hk
   obtain ⟨cvs,n,g1,g2⟩:=hi
   have hL:s.heap.IsList a cvs.toArray:=⟨_,g1,rfl,n,rfl⟩
   refine ⟨"list",_,hL.typeIs,slot_list_getitem.lookup,fun q=>?_⟩
   by_cases hk:0 ≤ k ∧ k < 2 ^ 63
   ·obtain ⟨cv,e1,e2⟩:=g2.get ((if_pos hk).symm.trans hv)
    exact wpAny_getItem_list hL hk.1 hk.2 (List.getElem?_toArray.trans e1) (q cv s.toks e2)
   ·obtain ⟨hk,hv⟩:=getElem_if ((if_neg hk).symm.trans hv)
    obtain ⟨cv,e1,e2⟩:=g2.get hv
    have hz:(cvs.toArray.size:Int) = vs.length:=congrArg Int.ofNat (List.size_toArray.trans g2.length)
    exact wpAny_getItem_list_neg hL hk.2.1 (by rw [hz]; exact hk.1) hk.2.2 (by rw [hz]; exact List.getElem?_toArray.trans e1) (q cv s.toks e2)
  | dctI es =>
   refine obind_elim hv fun k hk hv=>?_
   obtain ⟨t,rfl⟩:=asInt_in hy hk
   obtain ⟨xs,g1,g2⟩:=hi
   refine ⟨"dict",_,g1.mapOf.typeIs,slot_dict_getitem.lookup,fun q=>?_⟩
   obtain ⟨cv,e1,e2⟩:=(g2.get _).1 _ hv
   exact wpAny_getItem_of (intKind_is _ _ _ _) g1.mapOf e1 (q cv _ e2)
  | dctT es =>
   refine obind_elim hv fun ks hks hv=>?_
   obtain ⟨xs,g1,g2⟩:=dct_of S.st.hF hi
   refine ⟨"dict",_,g1.typeIs,slot_dict_getitem.lookup,fun q=>?_⟩
   obtain ⟨b,rfl,hb⟩:=key_is hy hks
   obtain ⟨p,e1,e2⟩:=(g2.get _).1 _ hv
   exact wpAny_getItem_heap gA.in1 (tkey_stays hb S.st.hF) g1 e1 (q p.2 _ e2)
  | _=>exact none_some hv
 cases x with
 | tup vs =>
  refine obind_elim h fun k hk hv=>?_
  obtain ⟨t,rfl⟩:=asInt_in hy hk
  obtain ⟨hk,hv⟩:=getElem_if hv
  obtain ⟨a,o,cvs,n,rfl,g1,gc,gd,g2⟩:=hx.inv
  obtain ⟨cv,e1,e2⟩:=g2.get hv
  have hT:IsTup s.heap a cvs.toArray:=⟨_,S.st.hF _ _ g1,gc,n,gd⟩
  have hlt:k.toNat < cvs.toArray.size:=List.size_toArray ▸ (List.getElem?_eq_some_iff.mp e1).1
  exact ⟨"tuple",_,hT.typeIs,slot_tuple_getitem.lookup,fun q=>getItem_tuple (j:=k.toNat) hT (Int.le_trans (by decide) hk.1) hk.2 (seqIndex_pos hk.1 hlt) (List.getElem?_toArray.trans e1) (q cv s.toks e2)⟩
 | _=>exact gen h
theorem rIdx {a i:PySem.Expr} {pos:Pos} {ma mi:AM V} (h1:RE c d env (eval a env) ma) (h2:RE c d env (eval i env) mi) (hs:∀ o i',subscripted i false o i' = operate [o,i'] (getItem o i'):=by intro _ _; with_unfolding_all rfl) :
  RE c d env (eval (.Subscript a i pos) env) (mIdx ma mi):=by
 refine ⟨fun A gA K F R σ s S v σ' h=>?_⟩
 refine hG9 fun P_ b_=>?_
 revert h
 refine AM.bind_elim fun x σ1 e1 h=>?_
 revert h
 refine AM.bind_elim fun y σ2 e2 h=>?_
 refine map_elim h fun r e3 h=>?_
 cases h
 refine b_ ?_; clear b_ P_
 refine Subscript_ (h1.go gA S e1 fun ca F1 R1 s1 X1 S1 V1=>h2.go gA S1 e2 fun cb F2 R2 s2 X2 S2 V2=>?_)
 obtain ⟨T,id,hT,hl,hg⟩:=getItem_is gA.u S2 (V1.ext X2) V2 e3
 exact tail_any hT hl (hg fun cv t V3=>⟨F2,R2,X1.trans X2,S2.tok t,V3⟩) (hs _ _)
end
noncomputable def St.setLoc (σ:St) (i:Nat) (v:V):St:={ σ with loc:=σ.loc.set i v }
theorem nd_ne {α:Type} {l:List (Str × α)} (nd:(l.map (·.1)).Nodup) {i j:Nat} {x y:Str} {k q:α} (hi:l[i]? = some (x,k)) (hj:l[j]? = some (y,q)) (hne:i ≠ j):y ≠ x:=by
 rintro rfl
 have hi':(l.map (·.1))[i]? = some y:=by rw [List.getElem?_map,hi]; rfl
 have hj':(l.map (·.1))[j]? = some y:=by rw [List.getElem?_map,hj]; rfl
 exact hne ((List.getElem?_inj (List.getElem?_eq_some_iff.mp hi').1 nd).mp (hi'.trans hj'.symm))
section
variable {c:Cx} {d:Nat} {env:Env}
theorem setLoc_get {σ:St} {i j:Nat} {v u:V} (h:(σ.setLoc i v).loc[j]? = some u):(i = j ∧ u = v) ∨ (i ≠ j ∧ σ.loc[j]? = some u):=by
 unfold St.setLoc at h
 dsimp only at h
 by_cases e:i = j
 ·subst e
  rw [List.getElem?_set] at h
  simp at h
  exact .inl ⟨rfl,h.2.symm⟩
 ·rw [List.getElem?_set_ne e] at h
  exact .inr ⟨e,h⟩
theorem Sim.store (ok:EnvOK env) {A:Around} {K F:Heap} {R:Adrs} {σ:St} {s:Shared} (S:Sim c env K F R σ s) {i:Nat} {x:Str} (hi:env.scope.names[i]? = some (x,.local) ∨ (env.scope.names[i]? = some (x,.cell) ∧ env.func ≠ none)) {cv:Value} {v:V} (h:VIn c F R cv v)
  {Q:Unit -> Shared -> Prop} {E:Value -> Shared -> Prop} (q:∀ s',Sim c env K F R (σ.setLoc i v) s' -> Q () s'):wpAny (model c.prog c.w) A (storeName env x cv) Q E s:=by
 have other:∀ {κ:NameKind},env.scope.names[i]? = some (x,κ) -> ∀ {j:Nat} {y:Str} {k:NameKind} {u:V},env.scope.names[j]? = some (y,k) -> κ ≠ k -> (σ.setLoc i v).loc[j]? = some u -> σ.loc[j]? = some u:=by
  intro κ hi j y k u e hk e'
  exact (setLoc_get e').elim (fun q=>absurd (Prod.mk.inj (Option.some.inj (hi.symm.trans (q.1 ▸ e)))).2 hk) (·.2)
 rcases hi with hi | ⟨hi,hfn⟩
 ·refine S.nsE fun m n r=>?_
  refine wpAny_storeName_local (ok.kindOf hi) n (fun h' n' hs=>q _ ?_) ok.hp
  refine ⟨S.st.but hs.extBut S.lK S.lF S.lR,S.lK,S.lF,S.lR,⟨_,n',fun j y u e e' hd=>?_⟩,fun j y e=>?_,fun j y e=>?_⟩
  ·refine hG9 fun P_ b_=>?_
   rcases setLoc_get e' with ⟨rfl,rfl⟩ | ⟨hne,e'⟩
   ·obtain ⟨rfl,_⟩:=Prod.mk.inj (Option.some.inj (hi.symm.trans e))
    refine b_ ?_; clear b_ P_
    exact ⟨cv,if_pos rfl,h⟩
   ·obtain ⟨cu,h1,h2⟩:=r j y u e e' hd
    refine b_ ?_; clear b_ P_
    exact ⟨cu,(if_neg (nd_ne ok.nd hi e hne)).trans h1,h2⟩
  ·refine S.cellE j y e fun a w e1 e2 e3 e4 e5 e6 e7=>?_
   exact ⟨a,w,e1,e2.sameBut hs e5,e3,e4,e5,e6,fun u e' hd=>e7 u (other hi e (fun q=>nomatch q) e') hd⟩
  ·refine S.freeE j y e fun a cu e1 e2 e3=>?_
   exact ⟨a,cu,e1,e2,fun u e' hd=>e3 u (other hi e (fun q=>nomatch q) e') hd⟩
 ·refine S.cellE i x hi fun a w e1 e2 e3 e4 e5 e6 e7=>?_
  refine wpAny_storeName_cell ok.kind (ok.kindOf hi) e1 e2 fun h' n' hs=>q _ ?_
  refine ⟨S.st.but hs.extBut (e3 hfn) e4 e6,S.lK,S.lF,S.lR,?_,fun j y e=>?_,fun j y e=>?_⟩
  ·refine S.nsE fun m n r=>?_
   exact ⟨m,n.sameBut hs (Ne.symm e5),fun j y u e e' hd=>r j y u e (other hi e (fun q=>nomatch q) e') hd⟩
  ·refine S.cellE j y e fun b w' f1 f2 f3 f4 f5 f6 f7=>?_
   by_cases hj:i = j
   ·subst hj
    obtain ⟨rfl,_⟩:=Prod.mk.inj (Option.some.inj (hi.symm.trans e))
    obtain rfl:=Option.some.inj (e1.symm.trans f1)
    exact ⟨a,some cv,f1,n',f3,f4,f5,f6,fun u e' hd=>⟨cv,rfl,((setLoc_get e').elim (·.2) fun q=>absurd rfl q.1) ▸ h⟩⟩
   ·have hb:b ≠ a:=fun z=>nd_ne ok.nd hi e hj (name_of_addr ok.apart (mem_of_lookup (z ▸ f1)) (mem_of_lookup e1))
    exact ⟨b,w',f1,f2.sameBut hs hb,f3,f4,f5,f6,fun u e' hd=>f7 u ((setLoc_get e').elim (fun q=>absurd q.1 hj) (·.2)) hd⟩
  ·refine S.freeE j y e fun b cu f1 f2 f3=>?_
   exact ⟨b,cu,f1,f2,fun u e' hd=>f3 u (other hi e (fun q=>nomatch q) e') hd⟩
noncomputable abbrev Names (env:Env) (i:Nat) (x:Str):Prop:=env.scope.names[i]? = some (x,.local) ∨ (env.scope.names[i]? = some (x,.cell) ∧ env.func ≠ none)
structure Tar (c:Cx) (d:Nat) (env:Env) (target:PySem.Expr) (mt:V -> AM Unit):Prop where
 run:∀ A,GoodA A d -> ∀ K F R σ s,Sim c env K F R σ s -> ∀ cv v σ',VIn c F R cv v -> mt v σ = some ((),σ') ->
 wpAny (model c.prog c.w) A (assign target env cv) (PostU c env K F R σ') NoE s
theorem Tar.go {target:PySem.Expr} {mt:V -> AM Unit} (h:Tar c d env target mt) {A:Around} (gA:GoodA A d) {K F:Heap} {R:Adrs} {σ σ':St} {s:Shared} (S:Sim c env K F R σ s) {cv:Value} {v:V} (hv:VIn c F R cv v) (e:mt v σ = some ((),σ')) {Q:Unit -> Shared -> Prop} {E:Value -> Shared -> Prop}
  (k:∀ u F' R' s',Ext K F R F' R' -> Sim c env K F' R' σ' s' -> Q u s'):wpAny (model c.prog c.w) A (assign target env cv) Q E s :=
 wpAny_mono (h.run A gA K F R σ s S cv v σ' hv e) (fun u s' q=>by obtain ⟨F',R',X,S'⟩:=q; exact k u F' R' s' X S') fun _ _ z=>z.elim
noncomputable def tName (i:Nat):V -> AM Unit:=fun v σ=>some ((),σ.setLoc i v)
theorem tarName (ok:EnvOK env) {i:Nat} {x:Str} {pos:Pos} (hi:Names env i x):Tar c d env (.Name x pos) (tName i):=by
 refine ⟨fun A gA K F R σ s S cv v σ' h e=>?_⟩
 cases e
 exact wpAny_assign_Name (S.store ok hi h fun s' S'=>⟨F,R,Ext.refl ..,S'⟩)
theorem tarNameL (ok:EnvOK env) {i:Nat} {x:Str} {pos:Pos} (hi:env.scope.names[i]? = some (x,.local)):Tar c d env (.Name x pos) (tName i):=tarName ok (.inl hi)
noncomputable def V.items (σ:St) (v:V):Option (List V):=V.casesOn (motive_1:=fun _=>Option (List V)) v ((v.view σ).bind O.listed) ((v.view σ).bind O.listed) (fun _=>((v.view σ).bind O.listed)) (fun _=>((v.view σ).bind O.listed)) (fun _=>((v.view σ).bind O.listed)) some (fun _=>((v.view σ).bind O.listed)) (fun _=>((v.view σ).bind O.listed)) (fun _=>((v.view σ).bind O.listed)) (fun _=>((v.view σ).bind O.listed)) (fun _ _=>((v.view σ).bind O.listed)) (fun _ _ _=>((v.view σ).bind O.listed)) (fun _ _=>((v.view σ).bind O.listed))
noncomputable def tEach:List (V -> AM Unit) -> List V -> AM Unit
 | [],[]=>pure ()
 | t :: ts,v :: vs=>do t v; tEach ts vs
 | _,_=>failure
noncomputable def unp (n:Nat) (v:V):AM (List V):=fun σ=>(v.items σ).bind fun vs=>if vs.length = n then some (vs,σ) else none
noncomputable def tTup (ts:List (V -> AM Unit)):V -> AM Unit:=fun v=>do let vs ← unp ts.length v; tEach ts vs
inductive Tars (c:Cx) (d:Nat) (env:Env):List PySem.Expr -> List (V -> AM Unit) -> Prop
 | nil:Tars c d env [] []
 | cons {e:PySem.Expr} {es:List PySem.Expr} {t:V -> AM Unit} {ts:List (V -> AM Unit)}:Tar c d env e t -> Tars c d env es ts -> (∀ env',assignEach (e :: es) env' = (false,assign e env') :: assignEach es env') -> Tars c d env (e :: es) (t :: ts)
theorem unp_some {n:Nat} {v:V} {σ:St} {r:List V × St} (h:unp n v σ = some r):v.items σ = some r.1 ∧ r.1.length = n ∧ r.2 = σ:=by
 refine obind_elim h fun vs e h=>?_
 refine some_ifE h fun k z1_=>?_
 subst z1_
 exact ⟨e,k,rfl⟩
theorem unp_go {A:Around} (hh:A.handled = none) {K F:Heap} {R:Adrs} {σ:St} {s:Shared} (S:Sim c env K F R σ s) {cv:Value} {v:V} {vs:List V} (h:VIn c F R cv v) (e:v.items σ = some vs) {Q:List Value -> Shared -> Prop} {E:Value -> Shared -> Prop}
  (q:∀ cvs s',VAll c F R cvs vs -> Sim c env K F R σ s' -> Q cvs s'):wpAny (model c.prog c.w) A (unpackItems cv vs.length none) Q E s:=by
 have up:∀ h',Heap.ExtBut s.heap.objs.size s.heap h' -> Sim c env K F R σ { s with heap:=h' }:=fun h' x=>S.up (tk:=s.toks) fun b o e=>x b o (Nat.ne_of_lt (Heap.lt_size e)) e
 have gen:((v.view σ).bind O.listed) = some vs -> wpAny (model c.prog c.w) A (unpackItems cv vs.length none) Q E s:=fun e=>by
  refine list_inE S h e fun a cvs n z1_ g1 g2 _=>?_
  subst z1_
  have:=kun_itemsOf (prog:=c.prog) (w:=c.w) (A:=A) (E:=E) (Q:=Q) (s:=s) (l:=a) (items:=cvs.toArray) hh ⟨_,g1,rfl,n,rfl⟩ fun h' x=>q cvs _ g2 (up h' x)
  rwa [List.size_toArray,g2.length] at this
 cases v with
 | tup us =>
  obtain ⟨a,o,cvs,n,rfl,g1,gc,gd,g2⟩:=h.inv
  cases e
  have:=unpackItems_tuple (prog:=c.prog) (w:=c.w) (A:=A) (E:=E) (Q:=Q) (s:=s) (t:=a) (items:=cvs.toArray) hh ⟨_,S.st.hF _ _ g1,gc,n,gd⟩ fun h' x=>q cvs _ g2 (up h' x)
  rwa [List.size_toArray,g2.length] at this
 | _=>exact gen e
theorem tars_len {es:List PySem.Expr} {ts:List (V -> AM Unit)} (h:Tars c d env es ts):(assignEach es env).length = ts.length ∧ (assignEach es env).findIdx? (·.1) = none:=by
 induction h with
 | nil=>exact ⟨rfl,rfl⟩
 | cons _ _ hs ih =>
  rw [hs env]
  exact ⟨by rw [List.length_cons,List.length_cons,ih.1],by rw [List.findIdx?_cons]; simp [ih.2]⟩
theorem tars_go {es:List PySem.Expr} {ts:List (V -> AM Unit)} (h:Tars c d env es ts) {A:Around} (gA:GoodA A d):∀ {K F:Heap} {R:Adrs} {σ σ':St} {s:Shared} {cvs:List Value} {vs:List V},Sim c env K F R σ s -> VAll c F R cvs vs -> tEach ts vs σ = some ((),σ') ->
  wpAny (model c.prog c.w) A (assignInOrder ((assignEach es env).map (·.2)) cvs) (PostU c env K F R σ') NoE s:=by
 induction h with
 | nil =>
  intro K F R σ σ' s cvs vs S hv e
  cases vs with
  | nil=>obtain rfl:=hv.nil_inv; cases e; exact wpAny_pure ⟨F,R,Ext.refl ..,S⟩
  | cons=>exact none_some e
 | cons h1 _ hs ih =>
  intro K F R σ σ' s cvs vs S hv e
  cases vs with
  | nil=>exact none_some e
  | cons v vs =>
   obtain ⟨cv,dvs,rfl,v1,vr⟩:=hv.inv
   revert e
   refine AM.bind_elim fun u σ1 e1 e2=>?_
   rw [hs env,List.map_cons]
   show wpAny _ _ (holding _ (assign _ env _) >>= fun _=>assignInOrder _ _) _ _ _
   refine wpAny_bind (wpAny_holding (h1.go gA S v1 e1 fun _ F1 R1 s1 X1 S1=>?_))
   refine hG9 fun P_ b_=>?_
   refine b_ ?_; clear b_ P_
   exact wpAny_mono (ih S1 (vr.ext X1) e2) (fun _ s2 q1_=>by obtain ⟨F2,R2,X2,S2⟩:=q1_; exact ⟨F2,R2,X1.trans X2,S2⟩) fun _ _ z=>z
theorem tarTup {es:List PySem.Expr} {k:Nat} {pos:Pos} {ts:List (V -> AM Unit)} (h:Tars c d env es ts):Tar c d env (.Tuple es k pos) (tTup ts):=by
 refine ⟨fun A gA K F R σ s S cv v σ' hv e=>?_⟩
 refine hG9 fun P_ b_=>?_
 revert e
 refine AM.bind_elim fun vs σ1 e1 e2=>?_
 obtain ⟨e1,e3,e4⟩:=unp_some e1
 dsimp only at e1 e3 e4
 subst e4
 refine b_ ?_; clear b_ P_
 show wpAny _ _ (standAt pos >>= fun _=>unpack cv (assignEach es env)) _ _ _
 refine wpAny_bind (wpAny_standAt ?_)
 unfold unpack
 have hl:=tars_len h
 rw [hl.2,hl.1,← e3]
 refine wpAny_bind (wpAny_holding (unp_go gA.1 S hv e1 fun cvs s' h1 S1=>?_))
 exact tars_go h gA S1 h1 e2
set_option genCtorIdx true in
inductive AFlow where
 | next
 | brk
 | cont
 | ret (v:V)
noncomputable def AFlow.out {α:Type} (a:α) (f:V -> α) (d:α) (fl:AFlow):α:=AFlow.casesOn fl a d d f
inductive FlIn (c:Cx) (F:Heap) (R:Adrs):Flow -> AFlow -> Prop
 | next:FlIn c F R .next .next
 | brk:FlIn c F R .brk .brk
 | cont:FlIn c F R .cont .cont
 | ret {cv:Value} {v:V}:VIn c F R cv v -> FlIn c F R (.ret cv) (.ret v)
noncomputable def FlIn.Inv (c:Cx) (F:Heap) (R:Adrs) (fl:Flow):AFlow -> Prop
 | .next=>fl = .next
 | .brk=>fl = .brk
 | .cont=>fl = .cont
 | .ret v=>∃ cv,fl = .ret cv ∧ VIn c F R cv v
theorem FlIn.inv {F:Heap} {R:Adrs} {fl:Flow} {f:AFlow} (h:FlIn c F R fl f):FlIn.Inv c F R fl f:=by
 cases h with
 | ret h=>exact ⟨_,rfl,h⟩
 | _=>rfl
noncomputable abbrev RS (c:Cx):=Ref (FlIn c) c
noncomputable def sNil:AM AFlow:=pure .next
noncomputable def sSeq (a b:AM AFlow):AM AFlow:=do let f ← a; match f with | .next=>b | f=>pure f
theorem rsNil:RS c d env (execs [] env) sNil:=by
 refine ⟨fun A gA K F R σ s S v σ' h=>?_⟩
 refine some2E h fun z0_ z1_=>?_
 subst z0_
 subst z1_
 exact wpAny_execs_nil ⟨F,R,Ext.refl ..,S,.next⟩
theorem rsSeq {st:Stmt} {rest:List Stmt} {m1 m2:AM AFlow} (h1:RS c d env (exec st env) m1) (h2:RS c d env (execs rest env) m2):RS c d env (execs (st :: rest) env) (sSeq m1 m2):=by
 refine ⟨fun A gA K F R σ s S v σ' h=>?_⟩
 revert h
 refine AM.bind_elim fun f σ1 e1 h=>?_
 refine wpAny_execs_cons (h1.go gA S e1 fun f' F1 R1 s1 X1 S1 V1=>?_)
 cases f with
 | next=>obtain rfl:f' = .next:=V1.inv; exact h2.go gA S1 h fun f2 F2 R2 s2 X2 S2 V2=>⟨F2,R2,X1.trans X2,S2,V2⟩
 | brk=>obtain rfl:f' = .brk:=V1.inv; cases h; exact ⟨F1,R1,X1,S1,.brk⟩
 | cont=>obtain rfl:f' = .cont:=V1.inv; cases h; exact ⟨F1,R1,X1,S1,.cont⟩
 | ret u=>obtain ⟨cv,rfl,r⟩:=V1.inv; cases h; exact ⟨F1,R1,X1,S1,.ret r⟩
noncomputable def sSet (i:Nat) (m:AM V):AM AFlow:=do let v ← m; tName i v; pure .next
theorem rsSet (ok:EnvOK env) {i:Nat} {x:Str} {p pos:Pos} {e:PySem.Expr} {m:AM V} (hi:Names env i x) (h1:RE c d env (eval e env) m) (hs:swapsWith e (some (.Name x p)) pos.line env = pure false:=by rfl):RS c d env (exec (.Assign [.Name x p] e pos) env) (sSet i m):=by
 refine ⟨fun A gA K F R σ s S v σ' h=>?_⟩
 revert h
 refine AM.bind_elim fun v1 σ1 e1 h=>?_
 refine some2E h fun z0_ z1_=>?_
 subst z0_
 subst z1_
 exact wpAny_Assign_Name (h1.go gA S e1 fun cv F1 R1 s1 X1 S1 V1=>S1.store ok hi V1 fun s' S'=>⟨F1,R1,X1,S',.next⟩) hs
theorem rsSetL (ok:EnvOK env) {i:Nat} {x:Str} {p pos:Pos} {e:PySem.Expr} {m:AM V} (hi:env.scope.names[i]? = some (x,.local)) (h1:RE c d env (eval e env) m) (hs:swapsWith e (some (.Name x p)) pos.line env = pure false:=by rfl):RS c d env (exec (.Assign [.Name x p] e pos) env) (sSet i m):=rsSet ok (.inl hi) h1 hs
noncomputable def sSetT (t:V -> AM Unit) (m:AM V):AM AFlow:=do let v ← m; t v; pure .next
theorem rsSetT {es:List PySem.Expr} {k:Nat} {p pos:Pos} {e:PySem.Expr} {m:AM V} {t:V -> AM Unit} (ht:Tar c d env (.Tuple es k p) t) (h1:RE c d env (eval e env) m)
  (hs:swapsWithSole [.Tuple es k p] e pos.line env = pure false:=by rfl) (hw:swappedStores [.Tuple es k p] e env = pure none:=by rfl):RS c d env (exec (.Assign [.Tuple es k p] e pos) env) (sSetT t m):=by
 refine ⟨fun A gA K F R σ s S v σ' h=>?_⟩
 revert h
 refine AM.bind_elim fun v1 σ1 e1 h=>?_
 revert h
 refine AM.bind_elim fun u σ2 e2 h=>?_
 refine some2E h fun z0_ z1_=>?_
 subst z0_
 subst z1_
 refine Assign_Tuple (h1.go gA S e1 fun cv F1 R1 s1 X1 S1 V1=>?_) hs hw
 exact ht.go gA S1 V1 e2 fun _ F2 R2 s2 X2 S2=>⟨F2,R2,X1.trans X2,S2,.next⟩
inductive NmL (env:Env):List Nat -> List Str -> Prop
 | nil:NmL env [] []
 | cons {i:Nat} {x:Str} {is:List Nat} {xs:List Str}:Names env i x -> NmL env is xs -> NmL env (i :: is) (x :: xs)
noncomputable def sSwap (is:List Nat) (m:AM V):AM AFlow:=do let v ← m; let vs ← unp is.length v; tEach (is.map tName) vs.reverse; pure .next
theorem NmL.length {is:List Nat} {xs:List Str} (h:NmL env is xs):is.length = xs.length:=by
 induction h with
 | nil=>rfl
 | cons _ _ ih=>rw [List.length_cons,List.length_cons,ih]
theorem swap_go (ok:EnvOK env) {A:Around} {is:List Nat} {xs:List Str} (h:NmL env is xs):∀ {K F:Heap} {R:Adrs} {σ σ':St} {s:Shared} {cvs:List Value} {vs:List V},Sim c env K F R σ s -> VAll c F R cvs vs -> tEach (is.map tName) vs σ = some ((),σ') ->
  wpAny (model c.prog c.w) A (assignInOrder (xs.map fun n=>bindName env n) cvs) (fun _ s'=>Sim c env K F R σ' s') NoE s:=by
 induction h with
 | nil =>
  intro K F R σ σ' s cvs vs S hv e
  cases vs with
  | nil=>obtain rfl:=hv.nil_inv; cases e; exact wpAny_pure S
  | cons=>exact none_some e
 | cons h1 _ ih =>
  intro K F R σ σ' s cvs vs S hv e
  cases vs with
  | nil=>exact none_some e
  | cons v vs =>
   obtain ⟨cv,dvs,rfl,v1,vr⟩:=hv.inv
   revert e
   refine AM.bind_elim fun u σ1 e1 e2=>?_
   refine some2E e1 fun z0_ z1_=>?_
   subst z0_
   subst z1_
   show wpAny _ _ (holding _ (bindName env _ _) >>= fun _=>assignInOrder _ _) _ _ _
   refine wpAny_bind (wpAny_holding (wpAny_bindName (S.store ok h1 v1 fun s' S'=>?_)))
   exact ih S' vr e2
theorem VAll.rev {F:Heap} {R:Adrs} {cvs:List Value} {vs:List V} (h:VAll c F R cvs vs):VAll c F R cvs.reverse vs.reverse:=by
 induction h using VAll.ind with
 | n=>exact .nil
 | k h _ ih=>rw [List.reverse_cons,List.reverse_cons]; exact ih.append (.one h)
theorem rsSwap (ok:EnvOK env) {es:List PySem.Expr} {k:Nat} {p pos:Pos} {e:PySem.Expr} {m:AM V} {is:List Nat} {names:List Str} (hn:NmL env is names.reverse) (h1:RE c d env (eval e env) m)
  (hs:swapsWithSole [.Tuple es k p] e pos.line env = pure false:=by rfl) (hw:swappedStores [.Tuple es k p] e env = pure (some names):=by rfl):RS c d env (exec (.Assign [.Tuple es k p] e pos) env) (sSwap is m):=by
 refine ⟨fun A gA K F R σ s S v σ' h=>?_⟩
 refine hG9 fun P_ b_=>?_
 revert h
 refine AM.bind_elim fun v1 σ1 e1 h=>?_
 revert h
 refine AM.bind_elim fun vs σ2 e2 h=>?_
 revert h
 refine AM.bind_elim fun u σ3 e3 h=>?_
 refine some2E h fun z0_ z1_=>?_
 subst z0_
 subst z1_
 obtain ⟨e2,e4,e5⟩:=unp_some e2
 dsimp only at e2 e4 e5
 subst e5
 refine b_ ?_; clear b_ P_
 refine Assign_Tuple_swapped (h1.go gA S e1 fun cv F1 R1 s1 X1 S1 V1=>?_) hs hw
 have hl:names.length = vs.length:=by rw [e4,hn.length,List.length_reverse]
 rw [hl]
 refine unp_go gA.1 S1 V1 e2 fun cvs s2 V2 S2=>?_
 exact wpAny_mono (swap_go ok hn S2 V2.rev e3) (fun _ s3 S3=>⟨F1,R1,X1,S3,.next⟩) fun _ _ z=>z.elim
noncomputable def sIf (t:AM Bool) (a b:AM AFlow):AM AFlow:=do let x ← t; if x then a else b
theorem rsIf {t:PySem.Expr} {a b:List Stmt} {pos:Pos} {mt:AM Bool} {ma mb:AM AFlow} (h1:RT c d env t mt) (h2:RS c d env (execs a env) ma) (h3:RS c d env (execs b env) mb):RS c d env (exec (.If t a b pos) env) (sIf mt ma mb):=by
 refine ⟨fun A gA K F R σ s S v σ' h=>?_⟩
 revert h
 refine AM.bind_elim fun x σ1 e1 h=>?_
 refine wpAny_If ((h1 _ rfl).go gA S e1 fun b' F1 R1 s1 X1 S1 e=>?_)
 subst e
 cases b' with
 | true=>exact h2.go gA S1 h fun cv F2 R2 s2 X2 S2 V2=>⟨F2,R2,X1.trans X2,S2,V2⟩
 | false=>exact h3.go gA S1 h fun cv F2 R2 s2 X2 S2 V2=>⟨F2,R2,X1.trans X2,S2,V2⟩
noncomputable def sRet (m:AM V):AM AFlow:=do let v ← m; pure (.ret v)
theorem rsRet {e:PySem.Expr} {pos:Pos} {m:AM V} (h1:RE c d env (eval e env) m):RS c d env (exec (.Return (some e) pos) env) (sRet m):=by
 refine ⟨fun A gA K F R σ s S v σ' h=>?_⟩
 revert h
 refine AM.bind_elim fun v1 σ1 e1 h=>?_
 refine some2E h fun z0_ z1_=>?_
 subst z0_
 subst z1_
 exact wpAny_Return_some (h1.go gA S e1 fun cv F1 R1 s1 X1 S1 V1=>⟨F1,R1,X1,S1,.ret V1⟩)
noncomputable def V.isN:V -> Bool
 | .none=>true
 | _=>false
theorem isN_in {F:Heap} {R:Adrs} {cv:Value} {v:V} (h:VIn c F R cv v) (k:v.isN = true):cv = .none:=by
 cases v with
 | none=>exact h.inv
 | _=>cases k
noncomputable def sExpr (m:AM V):AM AFlow:=do let v ← m; if v.isN = true then pure .next else failure
theorem rsExpr (ok:EnvOK env) {e:PySem.Expr} {pos:Pos} {m:AM V} (h1:RE c d env (eval e env) m) (hs:swapsWith e none pos.line env = pure false:=by rfl):RS c d env (exec (.Expr e pos) env) (sExpr m):=by
 refine ⟨fun A gA K F R σ s S v σ' h=>?_⟩
 revert h
 refine AM.bind_elim fun v1 σ1 e1 h=>?_
 by_cases k:v1.isN = true
 ·rw [if_pos k] at h
  refine some2E h fun z0_ z1_=>?_
  subst z0_
  subst z1_
  exact PySem.wpAny_Expr (h1.go gA S e1 fun cv F1 R1 s1 X1 S1 V1=>by obtain rfl:=isN_in V1 k; exact ⟨F1,R1,X1,S1,.next⟩) ok.inter hs
 ·rw [if_neg k] at h; exact none_some h
noncomputable def InpIs (c:Cx) (op:Operator) (f:V -> V -> Option V):Prop:=∀ (A:Around) (F:Heap) (R:Adrs) (s:Shared) (ca cb:Value) (a b r:V),VIn c F R ca a -> VIn c F R cb b -> f a b = some r ->
 ∀ (Q:Value -> Shared -> Prop),(∀ cv t,VIn c F R cv r -> Q cv { s with toks:=t }) -> wpAny (model c.prog c.w) A (inplaceOp op ca cb) Q NoE s
theorem inpAdd:InpIs c .Add opAdd:=by
 intro A F R s ca cb a b r ha hb h Q k
 obtain ⟨x,y,t,u,h0,rfl,rfl⟩:=int2_in h ha hb
 exact PySem.P.iadd_int (k _ _ (Option.some.inj h0 ▸ .int _ _))
theorem inpSub:InpIs c .Sub opSub:=by
 intro A F R s ca cb a b r ha hb h Q k
 obtain ⟨x,y,t,u,h0,rfl,rfl⟩:=int2_in h ha hb
 exact PySem.P.isub_int (k _ _ (Option.some.inj h0 ▸ .int _ _))
noncomputable def sAug (i:Nat) (f:V -> V -> Option V) (m:AM V):AM AFlow:=do let r ← mOp f (mGet i) m; tName i r; pure .next
theorem rsAug (ok:EnvOK env) {op:Operator} {f:V -> V -> Option V} (hf:InpIs c op f) {i:Nat} {x:Str} {p pos:Pos} {e:PySem.Expr} {m:AM V} (hi:Names env i x) (h1:RE c d env (eval e env) m):RS c d env (exec (.AugAssign (.Name x p) op e pos) env) (sAug i f m):=by
 refine ⟨fun A gA K F R σ s S v σ' h=>?_⟩
 refine hG9 fun P_ b_=>?_
 revert h
 refine AM.bind_elim fun r σ3 e0 h=>?_
 refine some2E h fun z0_ z1_=>?_
 subst z0_
 subst z1_
 obtain ⟨a,σ1,b,e1,e2,e3⟩:=mOp_some e0
 dsimp only at e2 e3
 obtain ⟨g1,g2,g3⟩:=mGet_some e1
 dsimp only at g1 g2 g3
 subst g3
 ·have fin:∀ ca,VIn c F R ca a -> wpAny (model c.prog c.w) A (eval e env) (fun v s₂=>wpAny (model c.prog c.w) A (inplaceOp op ca v) (fun r s₃=>wpAny (model c.prog c.w) A (storeName env x r) (fun _ s'=>Ex2 fun F' R'=>And3 (Ext K F R F' R') (Sim c env K F' R' _ s') (FlIn c F' R' .next .next)) NoE s₃) NoE s₂) NoE s:=fun ca hca =>
   h1.go gA S e2 fun cb F1 R1 s1 X1 S1 V1=>hf A F1 R1 s1 ca cb a b r (hca.ext X1) V1 e3 _ fun cr t V2=>(S1.tok t).store ok hi V2 fun s' S'=>⟨F1,R1,X1,S',.next⟩
  rcases hi with hi | ⟨hi,hfn⟩
  ·refine S.nsE fun m n r=>?_
   obtain ⟨ca,f1,f2⟩:=r i x a hi g1 g2
   refine b_ ?_; clear b_ P_
   exact wpAny_AugAssign_Name (wpAny_loadName_local ok.kind (ok.kindOf hi) n f1 (fin ca f2))
  ·refine S.cellE i x hi fun b' q f1 f2 _ _ _ _ f7=>?_
   obtain ⟨ca,rfl,f8⟩:=f7 a g1 g2
   refine b_ ?_; clear b_ P_
   exact wpAny_AugAssign_Name (wpAny_loadName_cell ok.kind (ok.kindOf hi) f1 f2 (fin ca f8))
end
section
variable {c:Cx} {d:Nat} {env:Env}
theorem fit {F:Heap} {R:Adrs} {g:Bool} {cv:Value} {v:V} (h:VIn c F R cv v) (k:g = true -> v.clean = true):VIn c F (cond g R.glob R) cv v:=by
 cases g
 ·exact h
 ·exact h.glob (k rfl)
theorem mapSeq_at (T:String) (vs:List Value) (n:Nat) (f:Array Value -> Array Value) (ws:List Value) (h:f vs.toArray = ws.toArray):∃ k,Obj.mapSeq f (seqO T vs n) = seqO T ws k:=by
 refine ⟨if (f vs.toArray).size == vs.toArray.size then n else n + 1,?_⟩
 show (Obj.mk _ _ (.seq (f vs.toArray) _) _) = _
 rw [h]
noncomputable def V.own (σ:St) (v:V):Option (Bool × Nat × O):=V.casesOn (motive_1:=fun _=>Option (Bool × Nat × O)) v Option.none Option.none (fun _=>Option.none) (fun _=>Option.none) (fun _=>Option.none) (fun _=>Option.none) (fun _=>Option.none) (fun _=>Option.none) (fun _=>Option.none) (fun _=>Option.none) (fun _ _=>Option.none) (fun _ _ _=>Option.none) (fun g n=>(σ.sel g)[n]?.map fun o=>(g,n,o))
theorem own_is {σ:St} {x:V} {p:Bool × Nat × O} (k:x.own σ = some p):x = .ref p.1 p.2.1 ∧ (σ.sel p.1)[p.2.1]? = some p.2.2:=by
 cases x with
 | ref g n =>
  refine map_elim k fun o ho e=>?_
  subst e
  exact ⟨rfl,ho⟩
 | _=>exact none_some k
noncomputable def ownF {α:Type} (f:O -> Option α) (x:V):AM α:=fun σ=>(x.own σ).bind fun p=>(f p.2.2).map fun a=>(a,σ)
theorem ownF_some {α:Type} {f:O -> Option α} {F:α -> O} (hf:∀ {o a},f o = some a -> o = F a) {x:V} {σ:St} {r:α × St} (h:ownF f x σ = some r):Ex2 fun g n=>And3 (x = .ref g n) ((σ.sel g)[n]? = some (F r.1)) (r.2 = σ):=by
 refine obind_elim h fun p h1 h=>map_elim h fun a h2 e=>?_
 subst e
 obtain ⟨e1,e2⟩:=own_is h1
 exact ⟨_,_,e1,by rw [e2,hf h2],rfl⟩
theorem ownF_eq {α:Type} {f:O -> Option α} {g:Bool} {n:Nat} {σ:St} {o:O} {a:α} (h:(σ.sel g)[n]? = some o) (k:f o = some a):ownF f (.ref g n) σ = some (a,σ):=obind_of (omap_of h) (omap_of k)
noncomputable def ownL:V -> AM (List V):=ownF O.listed
noncomputable def putL (x:V) (vs:List V):AM Unit:=fun σ=>match x with
 | .ref g n=>some ((),σ.put g n (.list vs))
 | _=>none
theorem ownL_some {x:V} {σ:St} {r:List V × St} (h:ownL x σ = some r):Ex2 fun g n=>And3 (x = .ref g n) ((σ.sel g)[n]? = some (.list r.1)) (r.2 = σ):=ownF_some O.listed_some h
noncomputable def V.isG (v:V):Bool:=V.casesOn (motive_1:=fun _=>Bool) v false false (fun _=>false) (fun _=>false) (fun _=>false) (fun _=>false) (fun _=>false) (fun _=>false) (fun _=>false) (fun _=>false) (fun _ _=>false) (fun _ _ _=>false) (fun g _=>g)
theorem ref_out {F:Heap} {R:Adrs} {cx:Value} {g:Bool} {n:Nat} (h:VIn c F R cx (.ref g n)):∃ a,cx = .ref a ∧ (R.sel g)[n]? = some a:=by
 exact h.inv
theorem own_in {F:Heap} {R:Adrs} {σ:St} {cx:Value} {x:V} {p:Bool × Nat × O} {C:Prop} (h:VIn c F R cx x) (k:x.own σ = some p) (f:∀ a,cx = .ref a -> VIn c F R cx (.ref p.1 p.2.1) -> (R.sel p.1)[p.2.1]? = some a -> (σ.sel p.1)[p.2.1]? = some p.2.2 -> C):C:=by
 obtain ⟨e1,ho⟩:=own_is k
 rw [e1] at h
 obtain ⟨a,e,ha⟩:=h.inv
 exact f a e h ha ho
theorem ownL_in {K F:Heap} {R:Adrs} {σ:St} {s:Shared} (S:Sim c env K F R σ s) {cx:Value} {g:Bool} {n:Nat} {vs:List V} (h:VIn c F R cx (.ref g n)) (e:(σ.sel g)[n]? = some (.list vs)) :
  Ex3 fun a cvs k=>And5 (cx = .ref a) ((R.sel g)[n]? = some a) (s.heap.get? a = some (seqO "list" cvs k)) (VAll c F (cond g R.glob R) cvs vs) (VAll c F R cvs vs):=by
 refine hG9 fun P_ b_=>?_
 obtain ⟨a,rfl,ha⟩:=ref_out h
 obtain ⟨_,_,cvs,k,g1,g2⟩:=S.st.own _ _ _ _ ⟨ha,e,by intro e; cases e⟩
 refine b_ ?_; clear b_ P_
 refine ⟨a,cvs,k,rfl,ha,g1,g2,?_⟩
 cases g
 ·skip
  exact g2
 ·skip
  exact g2.ext (Ext.ofGlob K F R)
theorem Sim.newList {K F:Heap} {R:Adrs} {σ:St} {s:Shared} (S:Sim c env K F R σ s) {g:Bool} {n:Nat} {a:Addr} {vs ws:List V} {cvs dvs:List Value} {k:Nat} (ha:(R.sel g)[n]? = some a) (e:(σ.sel g)[n]? = some (.list vs)) (g1:s.heap.get? a = some (seqO "list" cvs k))
  (hw:VAll c F (cond g R.glob R) dvs ws) {f:Array Value -> Array Value} (hf:f cvs.toArray = dvs.toArray) {tk:Nat}:Sim c env K F R (σ.put g n (.list ws)) { s with heap:=s.heap.update a (Obj.mapSeq f),toks:=tk }:=by
 obtain ⟨k',hk⟩:=mapSeq_at "list" cvs k f dvs hf
 have g3:(s.heap.update a (Obj.mapSeq f)).get? a = some (seqO "list" dvs k'):=by rw [Heap.get?_update_self _ g1 (by rw [hk]; rfl),hk]
 exact S.setOwn ⟨ha,e,by intro e; cases e⟩ (Heap.SameBut.update ..) ⟨dvs,k',g3,hw⟩
noncomputable def mApp (o e:AM V):AM V:=do
 let x ← o
 let _ ← ownL x
 let v ← e
 let vs ← ownL x
 if vs.length < lid ∧ (x.isG = true -> v.clean = true) then do putL x (vs ++ [v]); pure .none else failure
theorem rApp {o e:PySem.Expr} {apos pos:Pos} {mo me:AM V} (h1:RE c d env (eval o env) mo) (h2:RE c d env (eval e env) me) (hb:attributeBase o (Str.ofString "append") env (eval o env) = eval o env:=by with_unfolding_all rfl) (hl:(apos.endLine == pos.line) = true:=by rfl)
  (ht:backTo pos (starEach [e] env) = [(false,eval e env)]:=by rfl):RE c d env (eval (.Call (.Attribute o (Str.ofString "append") apos) [e] [] pos) env) (mApp mo me):=by
 refine ⟨fun A gA K F R σ s S v σ' h=>?_⟩
 refine hG9 fun P_ b_=>?_
 revert h
 refine AM.bind_elim fun x σ1 e1 h=>?_
 revert h
 refine AM.bind_elim fun us σ2 e2 h=>?_
 revert h
 refine AM.bind_elim fun y σ3 e3 h=>?_
 revert h
 refine AM.bind_elim fun vs σ4 e4 h=>?_
 replace h:=AM.ite_some h
 obtain ⟨hc,h⟩:=h
 replace e2:=ownL_some e2
 obtain ⟨g,n,rfl,e2,rfl⟩:=e2
 replace e4:=ownL_some e4
 obtain ⟨g',n',q,e4,rfl⟩:=e4
 cases q
 refine some2E h fun z0_ z1_=>?_
 subst z0_
 subst z1_
 refine b_ ?_; clear b_ P_
 refine wpAny_Call_method1_late hb hl ht (h1.go gA S e1 fun cx F1 R1 s1 X1 S1 V1=>?_)
 refine hG9 fun P_ b_=>?_
 obtain ⟨a,cus,k,rfl,ha,g1,_⟩:=ownL_in S1 V1 e2
 refine b_ ?_; clear b_ P_
 refine ⟨"list", "list.append",PySem.F.plainAttrs_list,PySem.F.slot_list_append,PySem.F.type_list_append,⟨_,g1,rfl⟩,fun b eb=>by cases eb; exact ⟨_,g1,rfl⟩,?_⟩
 refine callWith_builtin rfl (evalArgs_plain (Calls.spliced_cons (h2.go gA S1 e3 fun cv F2 R2 s2 X2 S2 V2=>Calls.spliced_nil ?_)))
 refine hG9 fun P_ b_=>?_
 obtain ⟨a',cvs,k',q,ha',g1',g2,_⟩:=ownL_in S2 (V1.ext X2) e4
 cases q
 refine b_ ?_; clear b_ P_
 refine call_meets PySem.F.slot_list_append ⟨_,g1',rfl⟩ PySem.F.entry_list_append (PySem.F.args_list_append_2 _ _) (AutoListH.list_append_list_val_0 a cvs.toArray k' cv (by rw [List.size_toArray,(VAll.length g2)]; exact Nat.le_trans (Nat.le_of_lt hc.1) lid_line)) ⟨g1',?_⟩
 exact ⟨F2,R2,X1.trans X2,S2.newList ha' e4 g1' (g2.append (.one (fit V2 hc.2))) (by simp),.none⟩
noncomputable def mExt (o e:AM V):AM V:=do
 let x ← o
 let _ ← ownL x
 let v ← e
 let vs ← ownL x
 fun σ=>((v.view σ).bind O.listed).bind fun ws=>if vs.length < lid ∧ ws.length < lid ∧ (x.isG = true -> cleanL ws = true) then some (.none,(((putL x (vs ++ ws) σ).getD ((),σ))).2) else none
set_option tactic.hygienic true in
theorem rExt {o e:PySem.Expr} {apos pos:Pos} {mo me:AM V} (h1:RE c d env (eval o env) mo) (h2:RE c d env (eval e env) me) (hb:attributeBase o (Str.ofString "extend") env (eval o env) = eval o env:=by with_unfolding_all rfl) (hl:(apos.endLine == pos.line) = true:=by rfl)
  (ht:backTo pos (starEach [e] env) = [(false,eval e env)]:=by rfl):RE c d env (eval (.Call (.Attribute o (Str.ofString "extend") apos) [e] [] pos) env) (mExt mo me):=by
 refine ⟨fun A gA K F R σ s S v σ' h=>?_⟩
 refine hG9 fun P_ b_=>?_
 revert h
 refine AM.bind_elim fun x σ1 e1 h=>?_
 revert h
 refine AM.bind_elim fun us σ2 e2 h=>?_
 revert h
 refine AM.bind_elim fun y σ3 e3 h=>?_
 revert h
 refine AM.bind_elim fun vs σ4 e4 h=>?_
 replace e2:=ownL_some e2
 obtain ⟨g,n,rfl,e2,rfl⟩:=e2
 replace e4:=ownL_some e4
 obtain ⟨g',n',q,e4,rfl⟩:=e4
 cases q
 dsimp only at e2 e4
 refine obind_elim h fun ws hv h=>some_ifE h fun hc z0_=>?_
 cases z0_
 refine b_ ?_; clear b_ P_
 refine wpAny_Call_method1_late hb hl ht (h1.go gA S e1 fun cx F1 R1 s1 X1 S1 V1=>?_)
 refine hG9 fun P_ b_=>?_
 obtain ⟨a,cus,k,rfl,ha,g1,_⟩:=ownL_in S1 V1 e2
 refine b_ ?_; clear b_ P_
 refine ⟨"list", "list.extend",PySem.F.plainAttrs_list,PySem.F.slot_list_extend,PySem.F.type_list_extend,⟨_,g1,rfl⟩,fun b eb=>by cases eb; exact ⟨_,g1,rfl⟩,?_⟩
 refine callWith_builtin rfl (evalArgs_plain (Calls.spliced_cons (h2.go gA S1 e3 fun cv F2 R2 s2 X2 S2 V2=>Calls.spliced_nil ?_)))
 refine hG9 fun P_ b_=>?_
 obtain ⟨a',cvs,k',q,ha',g1',g2,_⟩:=ownL_in S2 (V1.ext X2) e4
 cases q
 refine list_inE S2 V2 hv fun b dvs j z1_ f1 f2 _=>?_
 subst z1_
 have hz:cvs.toArray.size + dvs.toArray.size ≤ sizeLine:=by
  rw [List.size_toArray,List.size_toArray,VAll.length g2,VAll.length f2,sizeLine_eq]
  have h1:vs.length < 1048576:=hc.1
  have h2:ws.length < 1048576:=hc.2.1
  lia
 have f3:VAll c F2 (cond g R2.glob R2) dvs ws:=by
  cases g
  ·exact f2
  ·exact f2.glob (hc.2.2 rfl)
 refine b_ ?_; clear b_ P_
 refine call_meets PySem.F.slot_list_extend ⟨_,g1',rfl⟩ PySem.F.entry_list_extend (PySem.F.args_list_extend_2 _ _) (AutoSeq1.list_extend_list_list_0 a cvs.toArray k' b dvs.toArray j (extend_door hz) (Nat.le_trans (Nat.le_add_right _ _) hz) (Nat.le_succ_of_le hz)) ⟨g1',f1,?_⟩
 exact ⟨F2,R2,X1.trans X2,S2.newList ha' e4 g1' (g2.append f3) (by simp),.none⟩
theorem setSeq_exact {A:Around} {E:Value -> Shared -> Prop} {s:Shared} {l:Addr} {cvs:List Value} {n:Nat} {k:Int} {t:Tok} {v:Value} {Q:Unit -> Shared -> Prop} (ho:s.heap.get? l = some (seqO "list" cvs n)) (h0:0 ≤ k) (hf:k < 2 ^ 63) (hn:k < cvs.length)
  (hQ:Q () { s with heap:=s.heap.update l (Obj.mapSeq (·.setIfInBounds k.toNat v)) }):wpAny (model c.prog c.w) A (setItem (.ref l) (.int k t) v) Q E s:=by
 have hL:s.heap.IsList l cvs.toArray:=⟨_,ho,rfl,n,rfl⟩
 have hsub:=fitsIndex_of h0 hf
 clear hf
 unfold setItem
 with_reducible refine wpAny_holding ?_
 refine wpAny_bind (wpAny_sequenceKey hL.typeIs (by decide) ?_)
 refine wpAny_bind (wpAny_callSpecial?_slot (name:=Str.ofString "__setitem__") hL.typeIs slot_list_setitem (wpAny_call_entry slot_list_setitem hL.typeIs entry_list_setitem ?_ (args_list_setitem _ _ _)))
 show wpAny _ _ (Builtin.List.listSubscript? (.int k t) >>= _) _ _ s
 refine wpAny_bind (wpAny_listSubscript_int hsub ?_)
 obtain ⟨j,rfl⟩:=Int.eq_ofNat_of_zero_le h0
 have hj:j < cvs.toArray.size:=by simp; lia
 show wpAny _ _ ((seqItemAt l j >>= fun r=>pure (r.map (j,·))) >>= _) _ _ s
 refine wpAny_bind (wpAny_bind (wpAny_seqItemAt ho rfl (wpAny_pure ?_)))
 rw [Array.getElem?_eq_getElem hj]
 show wpAny _ _ (setSeqItemAt l j v >>= _) _ _ s
 exact wpAny_bind (wpAny_setSeqItemAt ho rfl (wpAny_pure ⟨.none,rfl,wpAny_pure hQ⟩))
end
structure Glo (c:Cx):Prop where
 X:c.fr.In c.hb
 g:c.hb.Ns mainGlobals c.mg
 b:c.hb.Ns builtinsNs c.mb
 lim:c.hb.NoLimit
 sys:BaseOK c
structure Fn (c:Cx) (fa:Addr) where
 fd:FuncData
 body:List Stmt
 pn:List Str
 look:Ex3 fun oc od osl=>c.fr.lookup fa = some ⟨oc,od,.func fd,osl⟩
 code:c.hb.CodeRec fd.code fd.qualname
 glo:fd.globals = mainGlobals
 blt:fd.builtins = builtinsNs
 clo:fd.closure = []
 bod:fd.body = .stmts body
 kind:fd.scope.kind = .function
 co:fd.scope.isCoroutine = false
 gen:fd.scope.isGenerator = false
 nd:(fd.scope.names.map (·.1)).Nodup
 dbg:∀ x ∈ fd.scope.names,(x.1 == ("__debug__" : Str)) = false ∧ (x.1 == ("__classdict__" : Str)) = false
 nofree:∀ x ∈ fd.scope.names,x.2 ≠ .free
 par:∀ (i:Nat) (x:Str),pn[i]? = some x -> fd.scope.names[i]? = some (x,.local) ∨ fd.scope.names[i]? = some (x,.cell)
 bind:∀ args:List Value,args.length = pn.length -> bindArgs fd ⟨args,[]⟩ = pure (pn.zip args)
noncomputable def Fn.env {c:Cx} {fa:Addr} (f:Fn c fa) (L:Addr):Env:=newEnv f.fd.scope L f.fd.globals (cellsFrom (L + 1) f.fd.scope.names []) (f.fd.qualname ++ ".<locals>.") (some fa) f.fd.code none f.fd.builtins
noncomputable def hOf (H:List O):Bool -> List O:=fun b=>cond b H []
structure FSpec (c:Cx) (d:Nat) (fa:Addr) (n:Nat) (g:List V -> List O -> Option (V × List O)):Prop where
 run:∀ A,GoodA A d -> ∀ (K F:Heap) (ρ:List Addr) (H:List O) (s:Shared),Store c K F ⟨ρ,[]⟩ (hOf H) s ->
 ∀ (cvs:List Value) (vs:List V) (v:V) (H':List O),cvs.length = n -> VAll c F ⟨ρ,[]⟩ cvs vs -> g vs H = some (v,H') ->
 wpAny (model c.prog c.w) A (call (.ref fa) cvs) (fun cv s'=>Ex2 fun F' ρ'=>And3 (Ext K F ⟨ρ,[]⟩ F' ⟨ρ',[]⟩) (Store c K F' ⟨ρ',[]⟩ (hOf H') s') (VIn c F' ⟨ρ',[]⟩ cv v)) NoE s
noncomputable def runFn (n:Nat) (m:AM AFlow) (vs:List V) (H:List O):Option (V × List O):=(m ⟨vs ++ List.replicate (n - vs.length) .undef,[],H⟩).bind fun p=>p.1.out (some (.none,p.2.heap)) (fun v=>if v.clean = true then some (v,p.2.heap) else none) none
theorem cellsFrom_mem {y:Str} {a:Addr} (names:List (Str × NameKind)):∀ (n:Nat) (acc:List (Str × Addr)),(y,a) ∈ cellsFrom n names acc -> (y,a) ∈ acc ∨ (y,NameKind.cell) ∈ names:=by
 induction names with
 | nil=>exact fun _ _ h=>.inl h
 | cons q r ih =>
  intro n acc h
  obtain ⟨x,k⟩:=q
  unfold cellsFrom at h
  split at h
  ·rename_i hk
   have hk:k = NameKind.cell:=beq_iff_eq.mp hk
   rcases ih (n + 1) _ h with h | h
   ·rcases List.mem_cons.mp h with h | h
    ·cases h; exact .inr (by rw [hk]; exact List.mem_cons_self)
    ·exact .inl h
   ·exact .inr (List.mem_cons_of_mem _ h)
  ·rcases ih n _ h with h | h
   ·exact .inl h
   ·exact .inr (List.mem_cons_of_mem _ h)
theorem bindL_keep {kindOf:Str -> Option NameKind} {x:Str} (binds:List (Str × Value)):∀ (m:Str -> Option Value),(∀ p ∈ binds,p.1 ≠ x) -> bindL kindOf binds m x = m x:=by
 induction binds with
 | nil=>exact fun _ _=>rfl
 | cons q r ih =>
  intro m h
  obtain ⟨n,v⟩:=q
  unfold bindL
  rw [ih _ fun p hp=>h p (List.mem_cons_of_mem _ hp)]
  split
  ·exact if_neg fun e=>h _ List.mem_cons_self e.symm
  ·rfl
theorem bindL_get {kindOf:Str -> Option NameKind} {x:Str} (hx:kindOf x = some .local) (pn:List Str):∀ (cvs:List Value) (m:Str -> Option Value) (i:Nat) (cv:Value),pn.Nodup -> pn[i]? = some x -> cvs[i]? = some cv -> bindL kindOf (pn.zip cvs) m x = some cv:=by
 induction pn with
 | nil=>exact fun _ _ _ _ _ h=>none_some h
 | cons p pn ih =>
  intro cvs m i cv nd h1 h2
  cases cvs with
  | nil=>exact none_some h2
  | cons u cvs =>
   rw [List.nodup_cons] at nd
   show bindL kindOf ((p,u) :: pn.zip cvs) m x = _
   unfold bindL
   cases i with
   | zero =>
    rw [List.getElem?_cons_zero] at h1 h2
    cases h1; cases h2
    rw [if_pos hx,bindL_keep _ _ fun q hq e=>nd.1 (by rw [← e]; exact (List.of_mem_zip (show (q.1,q.2) ∈ _ from hq)).1)]
    exact if_pos rfl
   | succ i=>exact ih cvs _ i cv nd.2 (by simpa using h1) (by simpa using h2)
theorem bindC_keep {kindOf:Str -> Option NameKind} {x:Str} (binds:List (Str × Value)):∀ (m:Str -> Option Value),(∀ p ∈ binds,p.1 ≠ x) -> bindC kindOf binds m x = m x:=by
 induction binds with
 | nil=>exact fun _ _=>rfl
 | cons q r ih =>
  intro m h
  obtain ⟨n,v⟩:=q
  unfold bindC
  rw [ih _ fun p hp=>h p (List.mem_cons_of_mem _ hp)]
  split
  ·rfl
  ·exact if_neg fun e=>h _ List.mem_cons_self e.symm
theorem bindC_get {kindOf:Str -> Option NameKind} {x:Str} (hx:kindOf x = some .cell) (pn:List Str):∀ (cvs:List Value) (m:Str -> Option Value) (i:Nat) (cv:Value),pn.Nodup -> pn[i]? = some x -> cvs[i]? = some cv -> bindC kindOf (pn.zip cvs) m x = some cv:=by
 induction pn with
 | nil=>exact fun _ _ _ _ _ h=>none_some h
 | cons p pn ih =>
  intro cvs m i cv nd h1 h2
  cases cvs with
  | nil=>exact none_some h2
  | cons u cvs =>
   rw [List.nodup_cons] at nd
   show bindC kindOf ((p,u) :: pn.zip cvs) m x = _
   unfold bindC
   cases i with
   | zero =>
    rw [List.getElem?_cons_zero] at h1 h2
    cases h1; cases h2
    rw [if_neg (by rw [hx]; intro e; cases e),bindC_keep _ _ fun q hq e=>nd.1 (by rw [← e]; exact (List.of_mem_zip (show (q.1,q.2) ∈ _ from hq)).1)]
    exact if_pos rfl
   | succ i=>exact ih cvs _ i cv nd.2 (by simpa using h1) (by simpa using h2)
section
variable {c:Cx} {d:Nat} {fa:Addr}
theorem sel_t {ρ:List Addr} {g:Bool} {n:Nat} {a:Addr} (h:(Adrs.sel ⟨ρ,[]⟩ g)[n]? = some a):g = true ∧ ρ[n]? = some a:=by
 cases g
 ·exact none_some h
 ·exact ⟨rfl,h⟩
theorem Store.dropT {K F:Heap} {R:Adrs} {H:Bool -> List O} {s:Shared} (S:Store c K F R H s):Store c K F ⟨R.g,[]⟩ (hOf (H true)) s where
 reach:=S.reach
 base:=S.base
 hK:=S.hK
 hF:=S.hF
 dis:=S.dis
 len:=fun g=>by
  cases g
  ·rfl
  ·exact S.len true
 apart:=fun g n a o g' n' o' l1 l2=>by
  obtain ⟨rfl,e1⟩:=sel_t l1.1
  obtain ⟨rfl,e2⟩:=sel_t l2.1
  exact S.apart true n a o true n' o' ⟨e1,l1.2⟩ ⟨e2,l2.2⟩
 own:=fun g n a o l=>by
  obtain ⟨rfl,e⟩:=sel_t l.1
  exact S.own true n a o ⟨e,l.2⟩
theorem Fn.pnd (f:Fn c fa):f.pn.Nodup:=by
 rw [List.nodup_iff_pairwise_ne,List.pairwise_iff_getElem]
 intro i j hi hj hij e
 have h1:f.pn[i]? = some f.pn[i]:=List.getElem?_eq_getElem hi
 have h2:f.pn[j]? = some f.pn[j]:=List.getElem?_eq_getElem hj
 have g:∀ (k:Nat) (x:Str),f.pn[k]? = some x -> ∃ q,f.fd.scope.names[k]? = some (x,q):=fun k x h=>by
  rcases f.par k x h with z | z
  ·exact ⟨_,z⟩
  ·exact ⟨_,z⟩
 obtain ⟨q1,g1⟩:=g i _ h1
 obtain ⟨q2,g2⟩:=g j _ h2
 exact nd_ne f.nd g1 g2 (Nat.ne_of_lt hij) e.symm
theorem Fn.kindAt (f:Fn c fa) (L:Addr) {i:Nat} {x:Str} {k:NameKind} (h:f.fd.scope.names[i]? = some (x,k)):(f.env L).kindOf x = some k:=lookup_nd f.nd h
set_option tactic.hygienic true in
theorem fspec_of (G:Glo c) (f:Fn c fa) {nl:Nat} {m:AM AFlow} (h:∀ L,EnvOK (f.env L) -> RS c d (f.env L) (execs f.body (f.env L)) m):FSpec c (d + 1) fa f.pn.length (runFn nl m):=by
 refine ⟨fun A gA K F ρ H s S cvs vs v H' hlen hv hg=>?_⟩
 obtain ⟨oc,od,osl,hlook⟩:=f.look
 have hX:c.fr.In s.heap:=fun a o e=>S.hK _ _ (S.base _ _ (G.X a o e))
 have hroom:A.depth < recursionLimit:=by show A.depth < 1000; have:=gA.2.1; (exact nH ‹_› (by decide))
 refine wpAny_call (codeAny_call_function hroom (hX _ _ hlook) rfl f.co f.gen f.bod (f.code.keeps fun a o e=>S.hK _ _ (S.base _ _ e)) ?_)
 rw [f.bind cvs hlen]
 have hkind:∀ n,∀ x ∈ f.pn.zip cvs,f.fd.scope.names.lookup x.1 = some .local ∨ (f.fd.scope.names.lookup x.1 = some .cell ∧ ((cellsFrom n f.fd.scope.names []).lookup x.1).isSome = true):=by
  intro n x hx
  obtain ⟨i,hi⟩:=List.mem_iff_getElem?.mp (List.of_mem_zip (show (x.1,x.2) ∈ _ from hx)).1
  rcases f.par i _ hi with q | q
  ·exact .inl (lookup_nd f.nd q)
  ·exact .inr ⟨lookup_nd f.nd q,W.cellsFrom_some _ _ _ (.inl (lookup_nd f.nd q))⟩
 rw [f.clo]
 refine wpAny_pure (wpAny_newFunctionEnv_cells f.kind (hkind _) fun env' he s' x=>?_)
 have he':env' = f.env s.heap.objs.size:=he
 subst he'
 refine hG9 fun P_ b_=>?_
 obtain ⟨h₁,tk,rfl,hk⟩:=x.done
 refine b_ ?_; clear b_ P_
 refine ⟨(G.lim.keeps S.base |>.keeps S.hK).keeps hk,codeAny_func ?_⟩
 have ok:EnvOK (f.env s.heap.objs.size):=by
  refine ⟨f.kind,f.glo,f.blt,f.nd,f.dbg,x.apart,fun y a e=>?_⟩
  rcases cellsFrom_mem _ _ _ (mem_of_lookup e) with q | q
  ·cases q
  ·obtain ⟨i,hi⟩:=List.mem_iff_getElem?.mp q
   exact ⟨i,.inl hi⟩
 have new:∀ a,s.heap.objs.size ≤ a -> K.get? a = none ∧ F.get? a = none ∧ ∀ g n b o,Live ⟨ρ,[]⟩ (hOf H) g n b o -> b ≠ a:=fun a ha=>by
  refine ⟨?_,?_,fun g n b o l e=>absurd (S.lowL l) (by rw [e]; exact Nat.not_lt.mpr ha)⟩
  ·cases q:K.get? a with
   | none=>rfl
   | some o=>exact absurd (Heap.lt_size (S.hK _ _ q)) (Nat.not_lt.mpr ha)
  ·cases q:F.get? a with
   | none=>rfl
   | some o=>exact absurd (Heap.lt_size (S.hF _ _ q)) (Nat.not_lt.mpr ha)
 have hlenv:=hv.length
 have at_:∀ (i:Nat) (y:Str) (k:NameKind) (u:V),f.fd.scope.names[i]? = some (y,k) -> (vs ++ List.replicate (nl - vs.length) V.undef)[i]? = some u -> u ≠ .undef -> f.pn[i]? = some y ∧ ∃ cv,cvs[i]? = some cv ∧ VIn c F ⟨ρ,[]⟩ cv u:=by
  intro i y k u e e' hd
  rcases Nat.lt_or_ge i vs.length with q | q
  ·rw [List.getElem?_append_left q] at e'
   obtain ⟨cv,e1,e2⟩:=hv.get e'
   have hi:i < f.pn.length:=by rw [← hlen,hlenv]; exact q
   have h1:f.pn[i]? = some f.pn[i]:=List.getElem?_eq_getElem hi
   have:f.pn[i] = y:=by
    rcases f.par i _ h1 with z | z <;> (rw [e] at z; cases z; rfl)
   exact ⟨by rw [h1,this],cv,e1,e2⟩
  ·rw [List.getElem?_append_right q,List.getElem?_replicate] at e'
   split at e'
   ·cases e'; exact absurd rfl hd
   ·cases e'
 have S₁:Sim c (f.env s.heap.objs.size) K F ⟨ρ,[]⟩ ⟨vs ++ List.replicate (nl - vs.length) .undef,[],H⟩ { s with heap:=h₁,toks:=tk }:=by
  have W:=new s.heap.objs.size (Nat.le_refl _)
  have eH:(St.sel ⟨vs ++ List.replicate (nl - vs.length) .undef,[],H⟩) = hOf H:=by funext b; cases b <;> rfl
  refine ⟨?_,W.1,W.2.1,fun g n b o l=>W.2.2 g n b o (eH ▸ l),⟨_,x.toInCall.ns,fun i y u e e' hd=>?_⟩,fun i y e=>?_,fun i y e=>?_⟩
  ·have:=S.up (tk:=tk) hk
   rw [eH]; exact this
  ·obtain ⟨h1,cv,h2,h3⟩:=at_ i y _ u e e' hd
   exact ⟨cv,bindL_get (f.kindAt _ e) _ _ _ i cv f.pnd h1 h2,h3⟩
  ·obtain ⟨a,ha⟩:=Option.isSome_iff_exists.mp (PySem.W.cellsFrom_some f.fd.scope.names (s.heap.objs.size + 1) [] (.inl (lookup_nd f.nd e)))
   have hL:=x.above _ _ (mem_of_lookup ha)
   have W:=new a (Nat.le_of_lt hL)
   refine ⟨a,_,ha,x.cell _ _ ha,fun _=>W.1,W.2.1,Nat.ne_of_gt hL,fun g n b o l=>W.2.2 g n b o (eH ▸ l),fun u e' hd=>?_⟩
   obtain ⟨h1,cv,h2,h3⟩:=at_ i y _ u e e' hd
   exact ⟨cv,bindC_get (f.kindAt _ e) _ _ _ i cv f.pnd h1 h2,h3⟩
  ·exact absurd rfl (f.nofree _ (List.mem_of_getElem? e))
 have gA':GoodA (A.deeper (f.env s.heap.objs.size)) d:=by
  exact ⟨gA.1,dA gA.2.1,dB gA.2.2⟩
 refine obind_elim hg fun p hm hg=>?_
 refine (h _ ok).go gA' S₁ hm fun fl F' R' s' X' S' V'=>?_
 have e:p.1.out (some (.none,p.2.heap)) (fun v=>if v.clean = true then some (v,p.2.heap) else none) none = some (v,H'):=hg
 have X2:Ext _ F _ F' ⟨R'.g,[]⟩:=⟨X'.f,X'.g,List.prefix_rfl,X'.k⟩
 generalize p.1 = fl2 at e V'
 cases fl2 with
 | next =>
  refine some2E e fun z0_ z1_=>?_
  subst z0_
  subst z1_
  obtain rfl:fl = .next:=V'.inv
  exact ⟨F',R'.g,X2,S'.st.dropT,.none⟩
 | ret u =>
  refine some_ifE e fun hcl z=>?_
  cases z
  obtain ⟨cu,rfl,V1'⟩:=V'.inv
  exact ⟨F',R'.g,X2,S'.st.dropT,V1'.glob hcl⟩
 | _=>exact none_some e
end
section
variable {c:Cx} {d:Nat} {env:Env}
noncomputable def Prot (env:Env) (K F:Heap) (R:Adrs) (σ:St) (t:Bool) (a:Addr):Prop:=(∃ o,K.get? a = some o) ∨ ((a = env.locals ∨ (∃ x,env.cells.lookup x = some a) ∨ (t = true ∧ ∃ n o,Live R σ.sel false n a o)) ∧ F.get? a = none)
noncomputable def prot (env:Env) (K F:Heap) (R:Adrs) (σ:St) (t:Bool) (a:Addr):Bool:=@decide (Prot env K F R σ t a) (Classical.propDecidable _)
theorem prot_iff {env:Env} {K F:Heap} {R:Adrs} {σ:St} {t:Bool} {a:Addr}:prot env K F R σ t a = true ↔ Prot env K F R σ t a:=by unfold prot; exact @decide_eq_true_iff _ (Classical.propDecidable _)
noncomputable def keepK (env:Env) (K F:Heap) (R:Adrs) (σ:St) (t:Bool) (s:Shared):Heap:=keepOnly s.heap (prot env K F R σ t)
section
variable {K F:Heap} {R:Adrs} {σ:St} {s:Shared} {t:Bool}
theorem keepK_of (S:Sim c env K F R σ s) {a:Addr} {o:Obj} (h:(keepK env K F R σ t s).get? a = some o):s.heap.get? a = some o ∧ F.get? a = none:=by
 obtain ⟨h1,h2⟩:=keepOnly_of h
 refine ⟨h1,?_⟩
 rcases prot_iff.mp h2 with ⟨q,e⟩ | ⟨_,e⟩
 ·exact S.st.dis a q e
 ·exact e
theorem keepK_K (S:Sim c env K F R σ s):K.StaysIn (keepK env K F R σ t s):=fun a o e=>by
 unfold keepK
 rw [keepOnly_yes (prot_iff.mpr (.inl ⟨o,e⟩))]
 exact S.st.hK a o e
theorem keepK_L (S:Sim c env K F R σ s):(keepK env K F R σ t s).get? env.locals = s.heap.get? env.locals:=keepOnly_yes (prot_iff.mpr (.inr ⟨.inl rfl,S.lF⟩))
theorem keepK_C {a:Addr} {x:Str} (h:env.cells.lookup x = some a) (hF:F.get? a = none):(keepK env K F R σ t s).get? a = s.heap.get? a:=keepOnly_yes (prot_iff.mpr (.inr ⟨.inr (.inl ⟨x,h⟩),hF⟩))
theorem keepK_T (S:Sim c env K F R σ s) {n:Nat} {a:Addr} {o:O} (l:Live R σ.sel false n a o):(keepK env K F R σ true s).get? a = s.heap.get? a:=keepOnly_yes (prot_iff.mpr (.inr ⟨.inr (.inr ⟨rfl,n,o,l⟩),(S.st.own _ _ _ _ l).2.1⟩))
theorem keepK_G (S:Sim c env K F R σ s) (ok:EnvOK env) {g:Bool} (hg:g = true ∨ t = false) {n:Nat} {a:Addr} {o:O} (l:Live R σ.sel g n a o):(keepK env K F R σ t s).get? a = none:=by
 refine keepOnly_no (Bool.eq_false_iff.mpr fun h=>?_)
 rcases prot_iff.mp h with ⟨q,e2⟩ | ⟨e2 | ⟨x,e2⟩ | ⟨ht,m,q,e2⟩,e3⟩
 ·rw [(S.st.own _ _ _ _ l).1] at e2; exact none_some e2
 ·exact S.lR _ _ _ _ l e2
 ·obtain ⟨i,k | k⟩:=ok.cl x a e2
  ·refine S.cellE i x k fun b q f1 _ _ _ _ f6 _=>?_
   obtain rfl:=Option.some.inj (e2.symm.trans f1)
   exact f6 _ _ _ _ l rfl
  ·refine S.freeE i x k fun b cv f1 z3_ _=>?_
   obtain ⟨q,f2,_⟩:=z3_
   obtain rfl:=Option.some.inj (e2.symm.trans f1)
   rw [(S.st.own _ _ _ _ l).1] at f2; exact none_some f2
 ·have:=(S.st.apart _ _ _ _ _ _ _ l e2).1
  rcases hg with hg | hg
  ·rw [hg] at this; cases this
  ·rw [hg] at ht; cases ht
theorem live_hOf {ρ:List Addr} {H:List O} {g:Bool} {n:Nat} {a:Addr} {o:O} (l:Live ⟨ρ,[]⟩ (hOf H) g n a o):g = true ∧ ρ[n]? = some a ∧ H[n]? = some o ∧ o ≠ .dead:=by
 obtain ⟨rfl,e⟩:=sel_t l.1
 exact ⟨rfl,e,l.2⟩
theorem Sim.enter (S:Sim c env K F R σ s) (ok:EnvOK env):Store c (keepK env K F R σ true s) F ⟨R.g,[]⟩ (hOf σ.heap) s:=by
 have up:∀ {g n a o},Live ⟨R.g,[]⟩ (hOf σ.heap) g n a o -> g = true ∧ Live R σ.sel true n a o:=fun l=>(by obtain ⟨h,e⟩:=live_hOf l; exact ⟨h,e⟩)
 refine ⟨S.st.reach,fun a o e=>keepK_K S a o (S.st.base a o e),fun a o e=>(keepK_of S e).1,S.st.hF,fun a o e=>(keepK_of S e).2,fun g=>?_,fun g n a o g' n' o' l1 l2=>?_,fun g n a o l=>?_⟩
 ·cases g
  ·rfl
  ·exact S.st.len true
 ·obtain ⟨rfl,k1⟩:=up l1
  obtain ⟨rfl,k2⟩:=up l2
  exact S.st.apart _ _ _ _ _ _ _ k1 k2
 ·obtain ⟨rfl,k⟩:=up l
  refine S.st.ownE _ _ _ _ k fun _ y2 y3=>?_
  exact ⟨keepK_G S ok (.inl rfl) k,y2,y3⟩
theorem Sim.leave (S:Sim c env K F R σ s) (ok:EnvOK env) {F':Heap} {ρ':List Addr} {H':List O} {s':Shared} (X:Ext (keepK env K F R σ true s) F ⟨R.g,[]⟩ F' ⟨ρ',[]⟩) (S':Store c (keepK env K F R σ true s) F' ⟨ρ',[]⟩ (hOf H') s') :
  Ext K F R F' ⟨ρ',R.t⟩ ∧ Sim c env K F' ⟨ρ',R.t⟩ { σ with heap:=H' } s':=by
 have XK:Ext K F R F' ⟨ρ',R.t⟩:=⟨X.f,X.g,List.prefix_rfl,fun a o e=>X.k a o (keepK_K S a o e)⟩
 have keep:∀ a o,(keepK env K F R σ true s).get? a = some o -> s'.heap.get? a = some o ∧ F'.get? a = none:=fun a o e=>⟨S'.hK a o e,S'.dis a o e⟩
 have lv:∀ {g n a o},Live ⟨ρ',R.t⟩ (St.sel { σ with heap:=H' }) g n a o -> (g = true ∧ Live ⟨ρ',[]⟩ (hOf H') true n a o) ∨ (g = false ∧ Live R σ.sel false n a o ∧ ∃ q,(keepK env K F R σ true s).get? a = some q):=by
  intro g n a o l
  cases g
  ·refine .inr ⟨rfl,l,?_⟩
   rw [keepK_T S (show Live R σ.sel false n a o from l)]
   exact (S.st.own _ _ _ _ (show Live R σ.sel false n a o from l)).2.2.some l.2.2
  ·exact .inl ⟨rfl,l⟩
 have L0:∃ q,(keepK env K F R σ true s).get? env.locals = some q:=by
  rw [keepK_L S]
  refine S.nsE fun m z1_ _=>?_
  obtain ⟨o,_,_,e,_⟩:=z1_
  exact ⟨o,e⟩
 refine ⟨XK,⟨⟨S'.reach,S.st.base,fun a o e=>S'.hK a o (keepK_K S a o e),S'.hF,fun a o e=>S'.dis a o (keepK_K S a o e),fun g=>?_,fun g n a o g' n' o' l1 l2=>?_,fun g n a o l=>?_⟩,S.lK,?_,fun g n a o l=>?_,?_,fun i x e=>?_,fun i x e=>?_⟩⟩
 ·cases g
  ·exact S.st.len false
  ·exact S'.len true
 ·rcases lv l1 with ⟨rfl,k1⟩ | ⟨rfl,k1,q1,p1⟩ <;> rcases lv l2 with ⟨rfl,k2⟩ | ⟨rfl,k2,q2,p2⟩
  ·exact S'.apart _ _ _ _ _ _ _ k1 k2
  ·rw [(S'.own _ _ _ _ k1).1] at p2; exact none_some p2
  ·rw [(S'.own _ _ _ _ k2).1] at p1; exact none_some p1
  ·exact S.st.apart _ _ _ _ _ _ _ k1 k2
 ·rcases lv l with ⟨rfl,k⟩ | ⟨rfl,k,q,p⟩
  ·obtain ⟨y1,y2,y3⟩:=S'.own _ _ _ _ k
   refine ⟨?_,y2,y3⟩
   cases z:K.get? a with
   | none=>rfl
   | some w=>rw [keepK_K S a w z] at y1; cases y1
  ·refine S.st.ownE _ _ _ _ k fun y1 _ y3=>?_
   refine ⟨y1,(keep a q p).2,y3.frame (K:=K) XK fun w hw=>?_⟩
   rw [keepK_T S k] at p
   obtain rfl:=Option.some.inj (p.symm.trans hw)
   exact (keep a q (by rw [keepK_T S k]; exact p)).1
 ·obtain ⟨q,e⟩:=L0; exact (keep _ q e).2
 ·rcases lv l with ⟨rfl,k⟩ | ⟨rfl,k,_⟩
  ·rintro rfl
   obtain ⟨q,e⟩:=L0
   rw [(S'.own _ _ _ _ k).1] at e; exact none_some e
  ·exact S.lR _ _ _ _ k
 ·refine S.nsE fun m z1_ z=>?_
  obtain ⟨o,es,ep,e,r⟩:=z1_
  exact ⟨m,⟨o,es,ep,(keep _ o (by rw [keepK_L S]; exact e)).1,r⟩,fun i x v e e' d=>(by obtain ⟨cv,h1,h2⟩:=z i x v e e' d; exact ⟨cv,h1,h2.ext XK⟩)⟩
 ·refine S.cellE i x e fun a q e1 z3_ e3 e4 e5 e6 e7=>?_
  obtain ⟨o,e2,e2'⟩:=z3_
  have kc:(keepK env K F R σ true s).get? a = some o:=by rw [keepK_C e1 e4]; exact e2
  refine ⟨a,q,e1,⟨o,(keep a o kc).1,e2'⟩,e3,(keep a o kc).2,e5,fun g n b o' l=>?_,fun v h d=>(by obtain ⟨cv,h1,h2⟩:=e7 v h d; exact ⟨cv,h1,h2.ext XK⟩)⟩
  rcases lv l with ⟨rfl,k⟩ | ⟨rfl,k,_⟩
  ·rintro rfl
   rw [(S'.own _ _ _ _ k).1] at kc; exact none_some kc
  ·exact e6 _ _ _ _ k
 ·refine S.freeE i x e fun a cv e1 e2 e3=>?_
  exact ⟨a,cv,e1,e2,fun v h d=>(e3 v h d).ext XK⟩
end
theorem nameG (G:Glo c) (ok:EnvOK env) {K F:Heap} {R:Adrs} {σ:St} {s:Shared} (S:Sim c env K F R σ s) {A:Around} {E:Value -> Shared -> Prop} {i:Nat} {x:Str} {pos:Pos} {v:Value} {Q:Value -> Shared -> Prop} (hi:env.scope.names[i]? = some (x,.globalImplicit)) (hv:c.mg x = some v) (h:Q v s) :
  wpAny (model c.prog c.w) A (eval (.Name x pos) env) Q E s :=
 Name_function_global ok.kind (ok.kindOf hi) (loadGlobal_global (mg:=c.mg) (by rw [ok.glo]; exact (G.g.keeps S.st.base).keeps S.st.hK) hv h) (ok.dbgAt hi).1
theorem nameB (G:Glo c) (ok:EnvOK env) {K F:Heap} {R:Adrs} {σ:St} {s:Shared} (S:Sim c env K F R σ s) {A:Around} {E:Value -> Shared -> Prop} {i:Nat} {x:Str} {pos:Pos} {v:Value} {Q:Value -> Shared -> Prop} (hi:env.scope.names[i]? = some (x,.globalImplicit)) (hn:c.mg x = none) (hv:c.mb x = some v) (h:Q v s) :
  wpAny (model c.prog c.w) A (eval (.Name x pos) env) Q E s :=
 Name_function_global ok.kind (ok.kindOf hi) (loadGlobal_builtin (mg:=c.mg) (mb:=c.mb) (by rw [ok.glo]; exact (G.g.keeps S.st.base).keeps S.st.hK) hn (by rw [ok.blt]; exact (G.b.keeps S.st.base).keeps S.st.hK) hv h) (ok.dbgAt hi).1
theorem rGInt (G:Glo c) (ok:EnvOK env) {i:Nat} {x:Str} {pos:Pos} {n:Int} {t:Tok} (hi:env.scope.names[i]? = some (x,.globalImplicit)) (hv:c.mg x = some (.int n t)):RE c d env (eval (.Name x pos) env) (pure (.int n)):=by
 refine ⟨fun A gA K F R σ s S v σ' h=>?_⟩
 refine some2E h fun z0_ z1_=>?_
 subst z0_
 subst z1_
 exact nameG G ok S hi hv ⟨F,R,Ext.refl ..,S,.int _ _⟩
noncomputable def mCall (g:List V -> List O -> Option (V × List O)) (ms:List (AM V)):AM V:=do let vs ← mAll ms; fun σ=>if cleanL vs = true then (g vs σ.heap).map fun r=>(r.1,{ σ with heap:=r.2 }) else none
theorem rCall (G:Glo c) (ok:EnvOK env) {fa:Addr} {n:Nat} {g:List V -> List O -> Option (V × List O)} (hf:FSpec c d fa n g) (hfn:Ex4 fun oc od fd osl=>c.fr.lookup fa = some ⟨oc,od,.func fd,osl⟩) {i:Nat} {x:Str} {p pos:Pos} {e:PySem.Expr} {es:List PySem.Expr} {m:AM V} {ms:List (AM V)}
  (hi:env.scope.names[i]? = some (x,.globalImplicit)) (hv:c.mg x = some (.ref fa)) (hn:(e :: es).length = n) (h1:RX c d env pos (e :: es) (m :: ms)) (hs:(backTo pos (starEach (e :: es) env)).head? = some (false,eval e env):=by rfl) (hlen:(m :: ms).length = (e :: es).length:=by rfl) :
  RE c d env (eval (.Call (.Name x p) (e :: es) [] pos) env) (mCall g (m :: ms)):=by
 refine ⟨fun A gA K F R σ s S v σ' h=>?_⟩
 revert h
 refine AM.bind_elim fun vs σ1 e1 h=>?_
 split at h
 ·rename_i hcl
  replace h:=Option.map_eq_some_iff.mp h
  obtain ⟨r,e2,h⟩:=h
  cases h
  refine wpAny_Call_Name_kw (nameG G ok S hi hv ?_)
  show wpAny _ _ (callWith pos (.ref fa) [] (backTo pos (starEach (e :: es) env)) []) _ _ _
  obtain ⟨oc,od,fd,osl,hl⟩:=hfn
  obtain ⟨ts,hts⟩:=head_some hs
  unfold RX at h1
  rw [hts] at h1 ⊢
  refine callWith_function (o:=⟨oc,od,.func fd,osl⟩) (fd:=fd) (evalArgs_plain (Ref.go h1 gA S e1 fun cvs F1 R1 s1 X1 S1 V1=>⟨⟨S1.X G.X _ _ hl,rfl⟩,?_⟩))
  have hlen2:∀ (ms:List (AM V)) (σ:St) (r:List V × St),mAll ms σ = some r -> r.1.length = ms.length:=by
   intro ms
   induction ms with
   | nil=>intro σ r h; cases h; rfl
   | cons m ms ih =>
    intro σ r h
    revert h
    refine AM.bind_elim fun v σ1 _ h=>?_
    revert h
    refine AM.bind_elim fun vs σ2 h2 h=>?_
    cases h
    rw [List.length_cons,List.length_cons,← ih _ _ h2]
  refine wpAny_mono (hf.run A gA _ _ _ _ _ (S1.enter ok) cvs vs r.1 r.2 ?_ (V1.glob hcl) e2) (fun cv s2 q_=>?_) fun _ _ z=>z
  ·rw [V1.length,hlen2 _ _ _ e1,hlen,hn]
  ·obtain ⟨F2,ρ',X2,S2,V2⟩:=q_
   obtain ⟨X3,S3⟩:=S1.leave ok X2 S2
   exact ⟨F2,_,X1.trans X3,S3,V2.ext (Ext.ofGlob K F2 ⟨ρ',R1.t⟩)⟩
 ·exact none_some h
end
structure Out (env:Env) (K F:Heap) (R:Adrs) (σ:St) (a:Addr):Prop where
 k:K.get? a = none
 f:F.get? a = none
 l:∀ g n b o,Live R σ.sel g n b o -> b ≠ a
 L:a ≠ env.locals
 c:∀ x,env.cells.lookup x ≠ some a
section
variable {c:Cx} {d:Nat} {env:Env} {K F:Heap} {R:Adrs} {σ:St} {s:Shared}
theorem Sim.outNew (S:Sim c env K F R σ s) (ok:EnvOK env) {a:Addr} (h:s.heap.objs.size ≤ a):Out env K F R σ a:=(by obtain ⟨h1,h2,h3,h4,h5⟩:=not_in_low S ok h; exact ⟨h1,h2,h3,h4,h5⟩)
theorem Sim.buts (ok:EnvOK env) (S:Sim c env K F R σ s) {h':Heap} {tk:Nat} {wr:List Addr} (hw:∀ a ∈ wr,Out env K F R σ a) (hs:∀ b o,b ∉ wr -> s.heap.get? b = some o -> h'.get? b = some o):Sim c env K F R σ { s with heap:=h',toks:=tk }:=by
 have k1:∀ a o,K.get? a = some o -> a ∉ wr:=fun a o e q=>by rw [(hw a q).k] at e; exact none_some e
 have f1:∀ a o,F.get? a = some o -> a ∉ wr:=fun a o e q=>by rw [(hw a q).f] at e; exact none_some e
 have l1:∀ g n a o,Live R σ.sel g n a o -> a ∉ wr:=fun g n a o l q=>(hw a q).l _ _ _ _ l rfl
 refine ⟨⟨(by obtain ⟨_,_,e⟩:=S.st.reach; exact ⟨h',tk,by rw [e]⟩),S.st.base,fun a o e=>hs a o (k1 a o e) (S.st.hK a o e),fun a o e=>hs a o (f1 a o e) (S.st.hF a o e),S.st.dis,S.st.len,S.st.apart,fun g n a o l=>?_⟩,S.lK,S.lF,S.lR,?_,fun i x e=>?_,S.free⟩
 ·skip
  refine S.st.ownE _ _ _ _ l fun y1 y2 y3=>?_
  exact ⟨y1,y2,y3.frame (Ext.refl K F _) fun q hq=>hs a q (l1 _ _ _ _ l) hq⟩
 ·refine hG9 fun P_ b_=>?_
  refine S.nsE fun m z1_ z=>?_
  obtain ⟨o,es,ep,e,r⟩:=z1_
  refine b_ ?_; clear b_ P_
  exact ⟨m,⟨o,es,ep,hs _ _ (fun q=>(hw _ q).L rfl) e,r⟩,z⟩
 ·refine hG9 fun P_ b_=>?_
  refine S.cellE i x e fun a q e1 z3_ r1 r2 r3 r4 r5=>?_
  obtain ⟨o,e2,e2'⟩:=z3_
  refine b_ ?_; clear b_ P_
  exact ⟨a,q,e1,⟨o,hs _ _ (fun q=>(hw _ q).c x e1) e2,e2'⟩,r1,r2,r3,r4,r5⟩
noncomputable def guardK (K:Heap) (wr:List Addr) (s:Shared):Heap:=keepOnly s.heap fun a=>(K.get? a).isSome || decide (a ∈ wr)
theorem guardK_of {wr:List Addr} (hK:K.StaysIn s.heap) {a:Addr} {o:Obj} (h:(guardK K wr s).get? a = some o):s.heap.get? a = some o ∧ (K.get? a = some o ∨ a ∈ wr):=by
 obtain ⟨h1,h2⟩:=keepOnly_of h
 refine ⟨h1,?_⟩
 rcases Bool.or_eq_true_iff.mp h2 with q | q
 ·obtain ⟨o',e⟩:=Option.isSome_iff_exists.mp q
  have:=hK a o' e
  obtain rfl:=Option.some.inj (h1.symm.trans this)
  exact .inl e
 ·exact .inr (of_decide_eq_true q)
theorem guardK_K {wr:List Addr} (hK:K.StaysIn s.heap):K.StaysIn (guardK K wr s):=fun a o e=>by
 unfold guardK
 rw [keepOnly_yes (by rw [e]; rfl)]
 exact hK a o e
theorem guardK_w {wr:List Addr} {a:Addr} (h:a ∈ wr):(guardK K wr s).get? a = s.heap.get? a:=keepOnly_yes (by rw [decide_eq_true h,Bool.or_true])
theorem Sim.guard (S:Sim c env K F R σ s) {wr:List Addr} (hw:∀ a ∈ wr,Out env K F R σ a):Sim c env (guardK K wr s) F R σ s:=by
 have hK:=S.st.hK
 have no:∀ a,K.get? a = none -> a ∉ wr -> (guardK K wr s).get? a = none:=fun a h1 h2=>by
  cases q:(guardK K wr s).get? a with
  | none=>rfl
  | some o =>
   rcases (guardK_of hK q).2 with e | e
   ·rw [h1] at e; exact none_some e
   ·exact absurd e h2
 refine ⟨⟨S.st.reach,fun a o e=>guardK_K hK a o (S.st.base a o e),fun a o e=>(guardK_of hK e).1,S.st.hF,fun a o e=>?_,S.st.len,S.st.apart,fun g n a o l=>?_⟩,no _ S.lK fun q=>(hw _ q).L rfl,S.lF,S.lR,S.ns,fun i x e=>?_,fun i x e=>?_⟩
 ·rcases (guardK_of hK e).2 with e | e
  ·exact S.st.dis a o e
  ·exact (hw a e).f
 ·refine S.st.ownE _ _ _ _ l fun y1 y2 y3=>?_
  exact ⟨no a y1 fun q=>(hw a q).l _ _ _ _ l rfl,y2,y3⟩
 ·refine S.cellE i x e fun a q e1 e2 e3 r1 r2 r3 r4=>?_
  exact ⟨a,q,e1,e2,fun hf=>no a (e3 hf) fun q=>(hw a q).c x e1,r1,r2,r3,r4⟩
 ·refine S.freeE i x e fun a cv e1 z3_ r=>?_
  obtain ⟨o,e2,e2'⟩:=z3_
  exact ⟨a,cv,e1,⟨o,guardK_K hK a o e2,e2'⟩,r⟩
theorem Sim.less {K':Heap} (S:Sim c env K' F R σ s) (hb:c.hb.StaysIn K) (hK:K.StaysIn K') (hf:∀ (i:Nat) (x:Str),env.scope.names[i]? = some (x,.free) -> Ex2 fun (a:Addr) (cv:Value)=>env.cells.lookup x = some a ∧ K.IsCell a (some cv)):Sim c env K F R σ s:=by
 have no:∀ a,K'.get? a = none -> K.get? a = none:=fun a h=>by
  cases q:K.get? a with
  | none=>rfl
  | some o=>rw [hK a o q] at h; cases h
 refine ⟨⟨S.st.reach,hb,fun a o e=>S.st.hK a o (hK a o e),S.st.hF,fun a o e=>S.st.dis a o (hK a o e),S.st.len,S.st.apart,fun g n a o l=>?_⟩,no _ S.lK,S.lF,S.lR,S.ns,fun i x e=>?_,fun i x e=>?_⟩
 ·skip
  refine S.st.ownE _ _ _ _ l fun y1 y2 y3=>?_
  exact ⟨no a y1,y2,y3⟩
 ·skip
  refine S.cellE i x e fun a q e1 e2 e3 r1 r2 r3 r4=>?_
  exact ⟨a,q,e1,e2,fun hf=>no a (e3 hf),r1,r2,r3,r4⟩
 ·refine hG9 fun P_ b_=>?_
  obtain ⟨a,cv,e1,e2⟩:=hf i x e
  refine S.freeE i x e fun a' cv' e1' z3_ r=>?_
  obtain ⟨o',e2',e3'⟩:=z3_
  obtain rfl:=Option.some.inj (e1.symm.trans e1')
  obtain ⟨o,e4,e5⟩:=e2
  have:=hK _ _ e4
  obtain rfl:=Option.some.inj (e2'.symm.trans this)
  rw [e3'] at e5; cases e5
  refine b_ ?_; clear b_ P_
  exact ⟨a,_,e1,⟨_,e4,e3'⟩,r⟩
theorem Sim.frees (S:Sim c env K F R σ s):∀ (i:Nat) (x:Str),env.scope.names[i]? = some (x,.free) -> Ex2 fun (a:Addr) (cv:Value)=>env.cells.lookup x = some a ∧ K.IsCell a (some cv):=fun i x e=>(by obtain ⟨a,cv,e1,e2,_⟩:=S.free i x e; exact ⟨a,cv,e1,e2⟩)
structure Turns (c:Cx) (target:PySem.Expr) (I:Addr) (wr fp:List Addr) (It:Nat -> Heap -> Prop) (vs:List V) (F₀:Heap) (R₀:Adrs):Prop where
 frame:∀ i h h',It i h -> (∀ b ∈ fp,∀ o,h.get? b = some o -> h'.get? b = some o) -> It i h'
 foot:∀ b ∈ fp,b ∈ wr ∨ ∃ o,F₀.get? b = some o
 here:∀ i h,It i h -> ∀ a ∈ wr,∃ o,h.get? a = some o
 item:∀ (A:Around),A.handled = none -> ∀ (env:Env),EnvOK env -> ∀ (K F:Heap) (R:Adrs) (σ:St) (s:Shared) (i:Nat) (v:V),(∃ Kx,Ext Kx F₀ R₀ F R) -> Sim c env K F R σ s -> (∀ a ∈ wr,Out env K F R σ a) -> It i s.heap -> vs[i]? = some v ->
  wpAny (model c.prog c.w) A (pyNext (.ref I)) (fun r s1=>∃ cv,r = some cv ∧ wpAny (model c.prog c.w) A (letOwnedTupleGo target (.ref I) cv) (fun _ s2=>∃ F',And5 (Ext K F R F' R) (Sim c env K F' R σ s2) (∀ a ∈ wr,Out env K F' R σ a) (It (i + 1) s2.heap) (VIn c F' R cv v)) NoE s1) NoE s
 done:∀ (A:Around),A.handled = none -> ∀ (env:Env),EnvOK env -> ∀ (K F:Heap) (R:Adrs) (σ:St) (s:Shared),(∃ Kx,Ext Kx F₀ R₀ F R) -> Sim c env K F R σ s -> (∀ a ∈ wr,Out env K F R σ a) -> It vs.length s.heap ->
  wpAny (model c.prog c.w) A (pyNext (.ref I)) (fun r s1=>r = none ∧ Sim c env K F R σ s1) NoE s
 self:∀ (A:Around),A.handled = none -> ∀ (i:Nat) (s:Shared) (Q:Value -> Shared -> Prop) (E:Value -> Shared -> Prop),It i s.heap -> Q (.ref I) s -> wpAny (model c.prog c.w) A (pyIter (.ref I)) Q E s
theorem Turns.go {c:Cx} {target:PySem.Expr} {I:Addr} {wr fp:List Addr} {It:Nat -> Heap -> Prop} {vs:List V} {F₀:Heap} {R₀:Adrs} (T:Turns c target I wr fp It vs F₀ R₀) {A:Around} (hh:A.handled = none) {env:Env} (ok:EnvOK env) {K F:Heap} {R:Adrs} {σ:St} {s:Shared} {i:Nat} {v:V}
  (hx:∃ Kx,Ext Kx F₀ R₀ F R) (S:Sim c env K F R σ s) (hw:∀ a ∈ wr,Out env K F R σ a) (hi:It i s.heap) (hv:vs[i]? = some v) {Q:Option Value -> Shared -> Prop} {E:Value -> Shared -> Prop}
  (k:∀ cv s2,(∀ {Q2:Unit -> Shared -> Prop} {E2:Value -> Shared -> Prop},(∀ u F3 s3,Ext K F R F3 R -> Sim c env K F3 R σ s3 -> (∀ a ∈ wr,Out env K F3 R σ a) -> It (i + 1) s3.heap -> VIn c F3 R cv v -> Q2 u s3) -> wpAny (model c.prog c.w) A (letOwnedTupleGo target (.ref I) cv) Q2 E2 s2) -> Q (some cv) s2):wpAny (model c.prog c.w) A (pyNext (.ref I)) Q E s:=by
 refine wpAny_mono (T.item A hh env ok K F R σ s i v hx S hw hi hv) (fun r s2 h=>?_) fun _ _ z=>z.elim
 obtain ⟨cv,rfl,h⟩:=h
 refine k cv s2 fun {Q2 E2} f=>wpAny_mono h (fun u s3 h=>?_) fun _ _ z=>z.elim
 obtain ⟨F3,h1,h2,h3,h4,h5⟩:=h
 exact f u F3 s3 h1 h2 h3 h4 h5
theorem Turns.fin {c:Cx} {target:PySem.Expr} {I:Addr} {wr fp:List Addr} {It:Nat -> Heap -> Prop} {vs:List V} {F₀:Heap} {R₀:Adrs} (T:Turns c target I wr fp It vs F₀ R₀) {A:Around} (hh:A.handled = none) {env:Env} (ok:EnvOK env) {K F:Heap} {R:Adrs} {σ:St} {s:Shared}
  (hx:∃ Kx,Ext Kx F₀ R₀ F R) (S:Sim c env K F R σ s) (hw:∀ a ∈ wr,Out env K F R σ a) (hi:It vs.length s.heap) {Q:Option Value -> Shared -> Prop} {E:Value -> Shared -> Prop} (k:∀ s1,Sim c env K F R σ s1 -> Q none s1):wpAny (model c.prog c.w) A (pyNext (.ref I)) Q E s:=by
 refine wpAny_mono (T.done A hh env ok K F R σ s hx S hw hi) (fun r s2 h=>?_) fun _ _ z=>z.elim
 obtain ⟨rfl,h⟩:=h
 exact k s2 h
noncomputable abbrev PostI (c:Cx) (env:Env) (target:PySem.Expr) (vs:List V) (K F:Heap) (R:Adrs) (σ':St):Value -> Shared -> Prop:=fun it s2=>Ex6 fun F' R' I wr fp It=>And6 (Ext K F R F' R') (Sim c env K F' R' σ' s2) (it = .ref I) (∀ a ∈ wr,Out env K F' R' σ' a) (It 0 s2.heap) (Turns c target I wr fp It vs F' R')
structure RI (c:Cx) (d:Nat) (env:Env) (target:PySem.Expr) (e:PySem.Expr) (mi:AM (List V)):Prop where
 run:∀ A,GoodA A d -> ∀ K F R σ s,Sim c env K F R σ s -> ∀ vs σ',mi σ = some (vs,σ') ->
 wpAny (model c.prog c.w) A (eval e env) (fun x s1=>wpAny (model c.prog c.w) A (pyIter x) (PostI c env target vs K F R σ') NoE s1) NoE s
theorem guard_back {target:PySem.Expr} {I:Addr} {wr fp:List Addr} {It:Nat -> Heap -> Prop} {vs:List V} {F₀:Heap} {R₀:Adrs} (T:Turns c target I wr fp It vs F₀ R₀) (S:Sim c env K F R σ s) (hw:∀ a ∈ wr,Out env K F R σ a) (hx:F₀.StaysIn F) {i:Nat} (hi:It i s.heap)
  {F':Heap} {R':Adrs} {σ':St} {s':Shared} (X:Ext (guardK K wr s) F R F' R') (S':Sim c env (guardK K wr s) F' R' σ' s'):Ext K F R F' R' ∧ Sim c env K F' R' σ' s' ∧ (∀ a ∈ wr,Out env K F' R' σ' a) ∧ It i s'.heap:=by
 have hK:=S.st.hK
 refine ⟨⟨X.f,X.g,X.t,fun a o e=>X.k a o (guardK_K hK a o e)⟩,S'.less S.st.base (guardK_K hK) S.frees,fun a ha=>?_,T.frame i _ _ hi fun b hb o e=>?_⟩
 ·obtain ⟨o,e⟩:=T.here i _ hi a ha
  have g:(guardK K wr s).get? a = some o:=(guardK_w ha).trans e
  refine ⟨(hw a ha).k,(X.k a o g).trans (hw a ha).f,fun g' n b o' l z=>?_,fun z=>?_,(hw a ha).c⟩
  ·subst z
   rw [(S'.st.own _ _ _ _ l).1] at g; exact none_some g
  ·subst z
   rw [S'.lK] at g; exact none_some g
 ·rcases T.foot b hb with h | ⟨o',h⟩
  ·exact S'.st.hK b o ((guardK_w h).trans e)
  ·have h1:=S.st.hF b o' (hx b o' h)
   obtain rfl:=Option.some.inj (e.symm.trans h1)
   exact S'.st.hF b o (X.f b o (hx b o h))
end
noncomputable def forM (mt:V -> AM Unit) (body:AM AFlow):List V -> AM AFlow
 | []=>pure .next
 | v :: vs=>do
  mt v
  let f ← body
  match f with
  | .next=>forM mt body vs
  | .cont=>forM mt body vs
  | .brk=>pure .next
  | .ret u=>pure (.ret u)
noncomputable def sFor (mt:V -> AM Unit) (mi:AM (List V)) (body:AM AFlow):AM AFlow:=do let vs ← mi; forM mt body vs
section
variable {c:Cx} {d:Nat} {env:Env}
theorem forM_cons {mt:V -> AM Unit} {body:AM AFlow} {v:V} {vs:List V} {σ:St} {r:AFlow × St} (h:forM mt body (v :: vs) σ = some r):Ex3 fun σ1 f σ2=>And3 (mt v σ = some ((),σ1)) (body σ1 = some (f,σ2)) ((f = .next ∨ f = .cont) ∧ forM mt body vs σ2 = some r ∨ f = .brk ∧ r = (.next,σ2) ∨ ∃ u,f = .ret u ∧ r = (.ret u,σ2)):=by
 revert h
 refine AM.bind_elim fun u σ1 e1 h=>?_
 revert h
 refine AM.bind_elim fun f σ2 e2 h=>?_
 refine ⟨σ1,f,σ2,e1,e2,?_⟩
 cases f with
 | next=>exact .inl ⟨.inl rfl,h⟩
 | cont=>exact .inl ⟨.inr rfl,h⟩
 | brk=>cases h; exact .inr (.inl ⟨rfl,rfl⟩)
 | ret u=>cases h; exact .inr (.inr ⟨u,rfl,rfl⟩)
noncomputable abbrev ForInv (c:Cx) (env:Env) (mt:V -> AM Unit) (mb:AM AFlow) (wr:List Addr) (It:Nat -> Heap -> Prop) (vs:List V) (F₀:Heap) (R₀:Adrs) (K:Heap) (σ':St) (f:AFlow) (n:Nat) (s1:Shared):Prop :=
 Ex4 fun i F1 R1 σ1=>And7 (n = vs.length - i) (i ≤ vs.length) (Ext K F₀ R₀ F1 R1) (Sim c env K F1 R1 σ1 s1) (∀ a ∈ wr,Out env K F1 R1 σ1 a) (It i s1.heap) (forM mt mb (vs.drop i) σ1 = some (f,σ'))
theorem for_core (ok:EnvOK env) {target:PySem.Expr} {body:List Stmt} {mt:V -> AM Unit} {mb:AM AFlow} (ht:Tar c d env target mt) (hb:RS c d env (execs body env) mb) {A:Around} (gA:GoodA A d) {I:Addr} {wr fp:List Addr} {It:Nat -> Heap -> Prop} {vs:List V} {F₀:Heap} {R₀:Adrs}
  (T:Turns c target I wr fp It vs F₀ R₀) {K:Heap} {σ':St} {f:AFlow} {P:Result -> Shared -> Prop} (hP:∀ fl F' R' s',Ext K F₀ R₀ F' R' -> Sim c env K F' R' σ' s' -> FlIn c F' R' fl f -> P (.ok fl) s')
  {F:Heap} {R:Adrs} {σ:St} {s:Shared} (X:Ext K F₀ R₀ F R) (S:Sim c env K F R σ s) (hw:∀ a ∈ wr,Out env K F R σ a) (hi:It 0 s.heap) (h:forM mt mb vs σ = some (f,σ')) :
  codeAny (model c.prog c.w) A (.forLoop target (.ref I) body [] env) P s:=by
 refine codeAny_forLoop_any (ForInv c env mt mb wr It vs F₀ R₀ K σ' f) ?_ vs.length ⟨0,F,R,σ,rfl,Nat.zero_le _,X,S,hw,hi,h⟩
 intro n s1 h0_
 obtain ⟨i,F1,R1,σ1,rfl,hle,X1,S1,hw1,hi1,h1⟩:=h0_
 rcases Nat.lt_or_ge i vs.length with hlt | hge
 ·have hv:vs[i]? = some vs[i]:=List.getElem?_eq_getElem hlt
  rw [List.drop_eq_getElem_cons hlt] at h1
  obtain ⟨σ2,f2,σ3,e1,e2,e3⟩:=forM_cons h1
  refine T.go gA.1 ok ⟨K,X1⟩ S1 hw1 hi1 hv fun cv s2 st=>st fun _ F3 s3 X3 S3 hw3 hi3 V3=>?_
  refine hG9 fun P_ b_=>?_
  have G:=S3.guard hw3
  refine b_ ?_; clear b_ P_
  refine ht.go gA G V3 e1 fun _ F4 R4 s4 X4 S4=>?_
  refine hG9 fun P_ b_=>?_
  refine b_ ?_; clear b_ P_
  refine hb.go gA S4 e2 fun fl F5 R5 s5 X5 S5 V5=>?_
  refine hG9 fun P_ b_=>?_
  obtain ⟨X6,S6,hw6,hi6⟩:=guard_back T S3 hw3 (fun a o e=>X3.f a o (X1.f a o e)) hi3 (X4.trans X5) S5
  have X7:=(X1.trans X3).trans X6
  have go:forM mt mb (vs.drop (i + 1)) σ3 = some (f,σ') -> ∃ m,m < vs.length - i ∧ ForInv c env mt mb wr It vs F₀ R₀ K σ' f m s5 :=
   fun e=>⟨vs.length - (i + 1),Nat.sub_lt_sub_left hlt (Nat.lt_succ_self i),i + 1,F5,R5,σ3,rfl,hlt,X7,S6,hw6,hi6,e⟩
  rcases e3 with ⟨hf,e⟩ | ⟨rfl,e⟩ | ⟨u,rfl,e⟩
  ·rcases hf with rfl | rfl
   ·obtain rfl:fl = .next:=V5.inv
    refine b_ ?_; clear b_ P_
    exact go e
   ·obtain rfl:fl = .cont:=V5.inv
    refine b_ ?_; clear b_ P_
    exact go e
  ·cases e
   obtain rfl:fl = .brk:=V5.inv
   refine b_ ?_; clear b_ P_
   exact hP .next _ _ _ X7 S6 .next
  ·cases e
   obtain ⟨cv,rfl,q⟩:=V5.inv
   refine b_ ?_; clear b_ P_
   exact hP (.ret _) _ _ _ X7 S6 (.ret q)
 ·have he:i = vs.length:=Nat.le_antisymm hle hge
  subst he
  rw [List.drop_length] at h1
  refine some2E h1 fun z0_ z1_=>?_
  subst z0_
  subst z1_
  refine T.fin gA.1 ok ⟨K,X1⟩ S1 hw1 hi1 fun s2 S2=>?_
  exact wpAny_execs_nil (hP .next _ _ _ X1 S2 .next)
theorem rsFor (ok:EnvOK env) {target iter:PySem.Expr} {body:List Stmt} {pos:Pos} {mt:V -> AM Unit} {mi:AM (List V)} {mb:AM AFlow} (ht:Tar c d env target mt) (h1:RI c d env target iter mi) (hb:RS c d env (execs body env) mb)
  (hs:∀ x,foldedSetIterable iter env x = pure x:=by intro _; rfl):RS c d env (exec (.For target iter body [] pos) env) (sFor mt mi mb):=by
 refine ⟨fun A gA K F R σ s S v σ' h=>?_⟩
 revert h
 refine AM.bind_elim fun vs σ1 e1 h=>?_
 refine wpAny_For (wpAny_mono (h1.run A gA K F R σ s S vs σ1 e1) (fun x s1 k=>wpAny_mono k (fun it s2 h_=>?_) fun _ _ z=>z.elim) fun _ _ z=>z.elim) hs
 obtain ⟨F',R',I,wr,fp,It,X,S2,hit,hw,hi,T⟩:=h_
 subst hit
 exact for_core ok ht hb gA T (fun fl F2 R2 s' X2 S' V'=>⟨F2,R2,X.trans X2,S',V'⟩) (Ext.refl K F' R') S2 hw hi h
end
section
variable {c:Cx} {d:Nat} {env:Env}
noncomputable def Idle (c:Cx) (target:PySem.Expr) (I:Addr) (It:Nat -> Heap -> Prop):Prop:=∀ (A:Around) (s:Shared) (i:Nat) (cv:Value) (Q:Unit -> Shared -> Prop) (E:Value -> Shared -> Prop),It i s.heap -> Q () s -> wpAny (model c.prog c.w) A (letOwnedTupleGo target (.ref I) cv) Q E s
theorem idleName {x:Str} {pos:Pos} {I:Addr} {It:Nat -> Heap -> Prop}:Idle c (.Name x pos) I It:=fun _ _ _ _ _ _ _ h=>wpAny_pure h
theorem turnsW {target:PySem.Expr} {I:Addr} {wr fp:List Addr} {n:Nat} {P:Nat -> Value -> Prop} {It:Nat -> Heap -> Prop} {vs:List V} {F₀:Heap} {R₀:Adrs} (W:∀ A:Around,A.handled = none -> Walks c.prog c.w A I fp wr n P It) (hn:n = vs.length)
  (hv:∀ i cv v,P i cv -> vs[i]? = some v -> VIn c F₀ R₀ cv v) (idle:Idle c target I It) (foot:∀ b ∈ fp,b ∈ wr ∨ ∃ o,F₀.get? b = some o) (here:∀ i h,It i h -> ∀ a ∈ wr,∃ o,h.get? a = some o):Turns c target I wr fp It vs F₀ R₀ where
 frame:=(W {} rfl).frame
 foot:=foot
 here:=here
 item:=fun A hh env ok K F R σ s i v q_ S hw hi hx=>by
  obtain ⟨Kx,X⟩:=q_
  have hlt:i < n:=by rw [hn]; exact (List.getElem?_eq_some_iff.mp hx).1
  refine (W A hh).item i s _ _ hlt hi fun cv h' tk hp hi' hk=>⟨cv,rfl,?_⟩
  refine idle A _ (i + 1) cv _ _ hi' ⟨F,Ext.refl K F R,S.buts ok hw hk,hw,hi',(hv i cv v hp hx).ext X⟩
 done:=fun A hh env ok K F R σ s _ S hw hi=>by
  refine (W A hh).done s _ _ (by rw [hn]; exact hi) fun h' tk hk=>⟨rfl,S.buts ok hw hk⟩
 self:=fun A hh i s Q E hi hQ=>(W A hh).self i s Q E hi hQ
theorem turnsT {elts:List PySem.Expr} {k:Nat} {pos:Pos} {I:Addr} {wr fp:List Addr} {n:Nat} {P:Nat -> Array Value -> Prop} {It:Nat -> Heap -> Prop} {Mid:Nat -> Addr -> Heap -> Prop} {vs:List V} {F₀:Heap} {R₀:Adrs} (W:∀ A:Around,A.handled = none -> WalksT c.prog c.w A I fp wr n P It Mid) (hn:n = vs.length)
  (hv:∀ i cvs v,P i cvs -> vs[i]? = some v -> ∃ us,v = .tup us ∧ VAll c F₀ R₀ cvs.toList us) (foot:∀ b ∈ fp,b ∈ wr ∨ ∃ o,F₀.get? b = some o) (here:∀ i h,It i h -> ∀ a ∈ wr,∃ o,h.get? a = some o):Turns c (.Tuple elts k pos) I wr fp It vs F₀ R₀ where
 frame:=(W {} rfl).frame
 foot:=foot
 here:=here
 item:=fun A hh env ok K F R σ s i v q_ S hw hi hx=>by
  obtain ⟨Kx,X⟩:=q_
  have hlt:i < n:=by rw [hn]; exact (List.getElem?_eq_some_iff.mp hx).1
  refine (W A hh).item i s _ _ hlt hi fun T vals h' tk hp hT ht hm hk=>⟨.ref T,rfl,?_⟩
  obtain ⟨us,rfl,hus⟩:=hv i vals v hp hx
  have hTw:=(W A hh).apart i T h' hm
  have oT:=S.outNew ok hT
  have S1:=S.buts (tk:=tk) ok hw hk
  obtain ⟨F',X',y,S2,z⟩:=S1.freeze (fun a=>a == T) fun a ha=>by
   have ha:a = T:=by simpa using ha
   subst ha
   exact ⟨oT.k,fun g n o l=>oT.l _ _ _ _ l rfl,oT.L,oT.c⟩
  have hw2:∀ a ∈ wr,Out env K F' R σ a:=fun a ha=>by
   refine ⟨(hw a ha).k,?_,(hw a ha).l,(hw a ha).L,(hw a ha).c⟩
   rw [z a (by simp only [beq_eq_false_iff_ne]; exact fun q=>hTw (q ▸ ha))]
   exact (hw a ha).f
  obtain ⟨o,e1,e2,q,e3⟩:=ht
  refine (W A hh).go elts k pos i T _ _ _ hm fun h'' hi'' hk''=>⟨F',X',S2.buts (tk:=tk) ok hw2 hk'',hw2,hi'',?_⟩
  refine .tup ((y T (by simp)).trans e1) e2 (by simpa using e3) ?_
  exact (hus.ext X).ext X'
 done:=fun A hh env ok K F R σ s _ S hw hi=>by
  refine (W A hh).done s _ _ (by rw [hn]; exact hi) fun h' tk hk=>⟨rfl,S.buts ok hw hk⟩
 self:=fun A hh i s Q E hi hQ=>(W A hh).self i s Q E hi hQ
noncomputable def mItems (m:AM V):AM (List V):=do let v ← m; V.casesOn (motive_1:=fun _=>AM (List V)) v failure failure (fun _=>failure) (fun _=>failure) (fun _=>failure) (fun _=>failure) pure (fun _=>failure) (fun _=>failure) (fun _=>failure) (fun _ _=>failure) (fun _ _ _=>failure) (fun _ _=>failure)
theorem mItems_some {m:AM V} {σ:St} {r:List V × St} (h:mItems m σ = some r):m σ = some (.lst r.1,r.2):=by
 refine hG9 fun P_ b_=>?_
 revert h
 refine AM.bind_elim fun v σ1 e1 h=>?_
 cases v with
 | lst vs=>refine b_ ?_; clear b_ P_; cases h; exact e1
 | _=>exact none_some h
theorem Sim.fit {K F:Heap} {R:Adrs} {σ:St} {s:Shared} (S:Sim c env K F R σ s) (ok:EnvOK env) {h':Heap} {tk:Nat} (hk:s.heap.StaysIn h') {l:List Addr} (hl:∀ a ∈ l,s.heap.objs.size ≤ a):Sim c env K F R σ { s with heap:=h',toks:=tk } ∧ ∀ a ∈ l,Out env K F R σ a :=
 ⟨S.up hk,fun a ha=>S.outNew ok (hl a ha)⟩
theorem turnsList {target:PySem.Expr} {I a:Addr} {cvs:List Value} {n:Nat} {vs:List V} {F:Heap} {R:Adrs} (g1:F.get? a = some (seqO "list" cvs n)) (g2:VAll c F R cvs vs) (hne:a ≠ I)
  (idle:Idle c target I fun i h=>h.IsListIter I a i ∧ h.IsList a cvs.toArray):Turns c target I [I] [I,a] (fun i h=>h.IsListIter I a i ∧ h.IsList a cvs.toArray) vs F R:=by
 refine turnsW (fun A hh=>Walks.list hh I a hne cvs.toArray) (by rw [List.size_toArray,g2.length]) (fun i cv v hp hx=>?_) idle (fun b hb=>?_) fun i h hi b hb=>?_
 ·obtain ⟨cu,e1,e2⟩:=g2.get hx
  have:cvs[i]? = some cv:=by simpa using hp
  obtain rfl:=Option.some.inj (e1.symm.trans this); exact e2
 ·rcases List.mem_cons.mp hb with rfl | hb
  ·exact .inl (List.mem_cons_self ..)
  ·rw [List.mem_singleton.mp hb]; exact .inr ⟨_,g1⟩
 ·rw [List.mem_singleton.mp hb]
  obtain ⟨o,e,_⟩:=hi.1
  exact ⟨o,e⟩
theorem idleListTup {elts:List PySem.Expr} {k:Nat} {pos:Pos} {I a:Addr} {cvs:Array Value}:Idle c (.Tuple elts k pos) I fun i h=>h.IsListIter I a i ∧ h.IsList a cvs:=by
 intro A s i cv Q E hi h
 cases cv with
 | ref T=>exact wpAny_letOwnedTupleGo_listiter hi.1 h
 | _=>exact wpAny_pure h
theorem ri_list (ok:EnvOK env) {target e:PySem.Expr} {m:AM V} (h1:RE c d env (eval e env) m) (idle:∀ I a cvs,Idle c target I fun i h=>h.IsListIter I a i ∧ h.IsList a cvs):RI c d env target e (mItems m):=by
 refine ⟨fun A gA K F R σ s S vs σ' h=>?_⟩
 have e1:=mItems_some h
 refine h1.go gA S e1 fun cv F1 R1 s1 X1 S1 V1=>?_
 obtain ⟨a,cvs,n,rfl,g1,g2⟩:=V1.inv
 have g1':=S1.st.hF _ _ g1
 refine wpAny_pyIter_list ⟨_,g1',rfl,n,rfl⟩ ?_
 obtain ⟨S2,hw⟩:=S1.fit ok (h':=s1.heap.push { cls:=.type "list_iterator",data:=.fields #[.ref a,.int 0 0] }) (tk:=s1.toks) (fun _ _ e=>Heap.get?_push_of_some _ e) (l:=[s1.heap.objs.size]) (fun b hb=>by rw [List.mem_singleton.mp hb]; exact Nat.le_refl _)
 refine ⟨F1,R1,s1.heap.objs.size,_,_,_,X1,S2,rfl,hw,⟨⟨_,Heap.get?_push_size _ rfl,rfl,rfl⟩,⟨_,Heap.get?_push_of_some _ g1',rfl,n,rfl⟩⟩,turnsList g1 g2 (Nat.ne_of_lt (Heap.lt_size g1')) (idle _ _ _)⟩
theorem riListN (ok:EnvOK env) {x:Str} {p:Pos} {e:PySem.Expr} {m:AM V} (h1:RE c d env (eval e env) m):RI c d env (.Name x p) e (mItems m):=ri_list ok h1 fun _ _ _=>idleName
theorem riListT (ok:EnvOK env) {elts:List PySem.Expr} {k:Nat} {p:Pos} {e:PySem.Expr} {m:AM V} (h1:RE c d env (eval e env) m):RI c d env (.Tuple elts k p) e (mItems m):=ri_list ok h1 fun _ _ _=>idleListTup
theorem callT (G:Glo c) (ok:EnvOK env) {T:String} {i:Nat} {x:Str} {p pos:Pos} {e:PySem.Expr} {es:List PySem.Expr} {m:AM V} {ms:List (AM V)} (hi:env.scope.names[i]? = some (x,.globalImplicit)) (hn:c.mg x = none) (hv:c.mb x = some (.type T))
  (h1:RX c d env pos (e :: es) (m :: ms)) (hs:(backTo pos (starEach (e :: es) env)).any (·.1) = false) (hs2:(backTo pos (starEach (e :: es) env)).head? = some (false,eval e env)) {A:Around} (gA:GoodA A d) {K F:Heap} {R:Adrs} {σ σ':St} {s:Shared} (S:Sim c env K F R σ s) {vs:List V} (h:mAll (m :: ms) σ = some (vs,σ'))
  {Q:Value -> Shared -> Prop} (q:∀ cvs F' R' s',Ext K F R F' R' -> Sim c env K F' R' σ' s' -> VAll c F' R' cvs vs -> wpAny (model c.prog c.w) A (call (.type T) cvs) Q NoE s'):wpAny (model c.prog c.w) A (eval (.Call (.Name x p) (e :: es) [] pos) env) Q NoE s:=by
 refine wpAny_Call_Name_kw (nameB G ok S hi hn hv ?_)
 show wpAny _ _ (callWith pos (.type T) [] (backTo pos (starEach (e :: es) env)) []) _ _ _
 refine PyProof.Rows.callWith_type hs ?_
 obtain ⟨ts,hts⟩:=head_some hs2
 unfold RX at h1
 rw [hts] at h1 ⊢
 exact evalArgs_plain (Ref.go h1 gA S h fun cvs F1 R1 s1 X1 S1 V1=>q cvs F1 R1 s1 X1 S1 V1)
theorem callB (G:Glo c) (ok:EnvOK env) {T:String} {i:Nat} {x:Str} {p pos:Pos} {e:PySem.Expr} {es:List PySem.Expr} {m:AM V} {ms:List (AM V)} (hi:env.scope.names[i]? = some (x,.globalImplicit)) (hn:c.mg x = none) (hv:c.mb x = some (.builtin T))
  (h1:RX c d env pos (e :: es) (m :: ms)) (hs:(backTo pos (starEach (e :: es) env)).any (·.1) = false) (hs2:(backTo pos (starEach (e :: es) env)).head? = some (false,eval e env)) {A:Around} (gA:GoodA A d) {K F:Heap} {R:Adrs} {σ σ':St} {s:Shared} (S:Sim c env K F R σ s) {vs:List V} (h:mAll (m :: ms) σ = some (vs,σ'))
  {Q:Value -> Shared -> Prop} (q:∀ cvs F' R' s',Ext K F R F' R' -> Sim c env K F' R' σ' s' -> VAll c F' R' cvs vs -> wpAny (model c.prog c.w) A (call (.builtin T) cvs) Q NoE s'):wpAny (model c.prog c.w) A (eval (.Call (.Name x p) (e :: es) [] pos) env) Q NoE s:=by
 refine wpAny_Call_Name_kw (nameB G ok S hi hn hv ?_)
 show wpAny _ _ (callWith pos (.builtin T) [] (backTo pos (starEach (e :: es) env)) []) _ _ _
 refine callWith_builtin hs ?_
 obtain ⟨ts,hts⟩:=head_some hs2
 unfold RX at h1
 rw [hts] at h1 ⊢
 exact evalArgs_plain (Ref.go h1 gA S h fun cvs F1 R1 s1 X1 S1 V1=>q cvs F1 R1 s1 X1 S1 V1)
theorem callB1 (G:Glo c) (ok:EnvOK env) {T:String} {i:Nat} {x:Str} {p pos:Pos} {e:PySem.Expr} {m:AM V} (hi:env.scope.names[i]? = some (x,.globalImplicit)) (hn:c.mg x = none) (hv:c.mb x = some (.builtin T))
  (h1:RX c d env pos [e] [m]) (hs:(backTo pos (starEach [e] env)).any (·.1) = false) (hs2:(backTo pos (starEach [e] env)).head? = some (false,eval e env)) {A:Around} (gA:GoodA A d) {K F:Heap} {R:Adrs} {σ σ':St} {s:Shared} (S:Sim c env K F R σ s) {u:V} (h:m σ = some (u,σ'))
  {Q:Value -> Shared -> Prop} (q:∀ cv F' R' s',Ext K F R F' R' -> Sim c env K F' R' σ' s' -> VIn c F' R' cv u -> wpAny (model c.prog c.w) A (call (.builtin T) [cv]) Q NoE s'):wpAny (model c.prog c.w) A (eval (.Call (.Name x p) [e] [] pos) env) Q NoE s :=
 callB G ok hi hn hv h1 hs hs2 gA S (vs:=[u]) (AM.bind_some.mpr ⟨_,_,h,rfl⟩) fun cvs F1 R1 s1 X1 S1 V1=>by
  obtain ⟨cv,rfl,a1⟩:=V1.inv1
  exact q cv F1 R1 s1 X1 S1 a1
theorem callT1 (G:Glo c) (ok:EnvOK env) {T:String} {i:Nat} {x:Str} {p pos:Pos} {e:PySem.Expr} {m:AM V} (hi:env.scope.names[i]? = some (x,.globalImplicit)) (hn:c.mg x = none) (hv:c.mb x = some (.type T))
  (h1:RX c d env pos [e] [m]) (hs:(backTo pos (starEach [e] env)).any (·.1) = false) (hs2:(backTo pos (starEach [e] env)).head? = some (false,eval e env)) {A:Around} (gA:GoodA A d) {K F:Heap} {R:Adrs} {σ σ':St} {s:Shared} (S:Sim c env K F R σ s) {u:V} (h:m σ = some (u,σ'))
  {Q:Value -> Shared -> Prop} (q:∀ cv F' R' s',Ext K F R F' R' -> Sim c env K F' R' σ' s' -> VIn c F' R' cv u -> wpAny (model c.prog c.w) A (call (.type T) [cv]) Q NoE s'):wpAny (model c.prog c.w) A (eval (.Call (.Name x p) [e] [] pos) env) Q NoE s :=
 callT G ok hi hn hv h1 hs hs2 gA S (vs:=[u]) (AM.bind_some.mpr ⟨_,_,h,rfl⟩) fun cvs F1 R1 s1 X1 S1 V1=>by
  obtain ⟨cv,rfl,a1⟩:=V1.inv1
  exact q cv F1 R1 s1 X1 S1 a1
noncomputable def intR (a:Int):Nat -> List V
 | 0=>[]
 | n + 1=>.int a :: intR (a + 1) n
theorem intR_get {a:Int} {n i:Nat} {v:V} (h:(intR a n)[i]? = some v):i < n ∧ v = .int (a + i):=by
 induction n generalizing a i with
 | zero=>exact none_some h
 | succ n ih =>
  cases i with
  | zero=>cases h; exact ⟨Nat.succ_pos _,by simp⟩
  | succ i =>
   obtain ⟨h1,h2⟩:=ih (a:=a + 1) h
   exact ⟨Nat.succ_lt_succ h1,by rw [h2]; congr 1; push_cast; lia⟩
theorem intR_len {a:Int} {n:Nat}:(intR a n).length = n:=by
 induction n generalizing a with
 | zero=>rfl
 | succ n ih=>exact congrArg Nat.succ ih
noncomputable def mRange:List (AM V) -> AM (List V)
 | [m]=>do let v ← m; fun σ=>(v.asInt.bind fun n=>if -(2 ^ 20) < n ∧ n < 2 ^ 20 then some (intR 0 n.toNat) else none).map fun r=>(r,σ)
 | [m,k]=>twoInts m k fun a b=>if -(2 ^ 20) < a ∧ a < 2 ^ 20 ∧ -(2 ^ 20) < b ∧ b < 2 ^ 20 then some (intR a (b - a).toNat) else none
 | _=>failure
theorem ri_range_core (ok:EnvOK env) {x:Str} {p:Pos} {A:Around} {K F:Heap} {R:Adrs} {σ:St} {s:Shared} (S:Sim c env K F R σ s) {r:Addr} {a b:Int} {t u w:Tok} (hr:IsRange s.heap r a b 1 t u w) (h1:-(2 ^ 20) < a) (h2:a < 2 ^ 20) (h3:-(2 ^ 20) < b) (h4:b < 2 ^ 20) :
  wpAny (model c.prog c.w) A (pyIter (.ref r)) (fun it s2=>Ex6 fun F' R' I wr fp It=>And6 (Ext K F R F' R') (Sim c env K F' R' σ s2) (it = .ref I) (∀ a ∈ wr,Out env K F' R' σ a) (It 0 s2.heap) (Turns c (.Name x p) I wr fp It (intR a (b - a).toNat) F' R')) NoE s:=by
 have hz:Builtin.Range.rangeSize a b 1 = ((b - a).toNat:Int):=by rw [rangeSize_one]; split <;> lia
 refine wpAny_pyIter_range hr (small_one (by lia) (by exact wA ‹_› (by decide)) (by lia) (by exact wA ‹_› (by decide))) ?_
 obtain ⟨S2,hw⟩:=S.fit ok (h':=s.heap.push { cls:=.type "range_iterator",data:=.fields #[rawInt a,rawInt (Builtin.Range.rangeSize a b 1),rawInt 1] }) (tk:=s.toks) (fun _ _ e=>Heap.get?_push_of_some _ e) (l:=[s.heap.objs.size]) (fun b hb=>by rw [List.mem_singleton.mp hb]; exact Nat.le_refl _)
 refine ⟨F,R,s.heap.objs.size,[s.heap.objs.size],[s.heap.objs.size],fun i h=>IsRangeIter h s.heap.objs.size (a + (i:Nat) * 1) (((b - a).toNat:Int) - (i:Nat)) 1,Ext.refl ..,S2,rfl,hw,?_,?_⟩
 ·show IsRangeIter _ _ _ _ _
  rw [hz]
  simpa using Heap.get?_push_size s.heap (o:={ cls:=.type "range_iterator",data:=.fields #[rawInt a,rawInt ((b - a).toNat:Int),rawInt 1] }) rfl
 ·refine turnsW (fun A hh=>Walks.range hh _ a 1 (b - a).toNat) intR_len.symm (fun i cv v hp hx=>?_) idleName (fun b hb=>.inl hb) fun i h hi q hq=>?_
  ·obtain ⟨t,rfl⟩:=hp
   obtain ⟨_,rfl⟩:=intR_get hx
   rw [Int.mul_one]
   exact .int _ _
  ·rw [List.mem_singleton.mp hq]; exact ⟨_,hi⟩
theorem riEnd {target:PySem.Expr} {K F F1:Heap} {R R1:Adrs} {σ':St} {vs:List V} {A:Around} {t:Sem Value} {s:Shared} (X1:Ext K F R F1 R1) (h:wpAny (model c.prog c.w) A t (PostI c env target vs K F1 R1 σ') NoE s) :
  wpAny (model c.prog c.w) A t (PostI c env target vs K F R σ') NoE s :=
 wpAny_mono h (fun _ _ q1_=>by obtain ⟨F',R',I,wr,fp,It,h1,h2,h3,h4,h5,h6⟩:=q1_; exact ⟨F',R',I,wr,fp,It,X1.trans h1,h2,h3,h4,h5,h6⟩) fun _ _ x=>x
theorem ri_range (G:Glo c) (ok:EnvOK env) {x:Str} {p q pos:Pos} {y:Str} {i:Nat} {e:PySem.Expr} {es:List PySem.Expr} {m:AM V} {ms:List (AM V)} (hi:env.scope.names[i]? = some (y,.globalImplicit)) (hn:c.mg y = none) (hv:c.mb y = some (.type "range"))
  (h1:RX c d env pos (e :: es) (m :: ms)) (hs:(backTo pos (starEach (e :: es) env)).any (·.1) = false:=by rfl) (hs2:(backTo pos (starEach (e :: es) env)).head? = some (false,eval e env):=by rfl):RI c d env (.Name x p) (.Call (.Name y q) (e :: es) [] pos) (mRange (m :: ms)):=by
 refine ⟨fun A gA K F R σ s S vs σ' h=>?_⟩
 cases ms with
 | nil =>
  revert h
  refine AM.bind_elim fun v σ1 e1 h=>?_
  refine map_elim h fun l hl q_=>obind_elim hl fun n hi1 hl=>some_ifE hl fun hc ql=>?_
  cases q_
  subst ql
  obtain rfl:=asInt_is hi1
  refine callT G ok hi hn hv h1 hs hs2 gA S (vs:=[.int n]) (AM.bind_some.mpr ⟨_,_,e1,rfl⟩) fun cvs F1 R1 s1 X1 S1 V1=>?_
  obtain ⟨cv,rfl,a1⟩:=V1.inv1
  obtain ⟨t,rfl⟩:=a1.inv
  refine call_range_1 ?_
  have:=ri_range_core (x:=x) (p:=p) (A:=A) ok (S1.up (tk:=s1.toks + 1 + 1) fun _ _ e=>Heap.get?_push_of_some _ e) (IsRange.new s1.heap 0 n 1 s1.toks t (s1.toks + 1)) (by decide) (by decide) hc.1 hc.2
  rw [Int.sub_zero] at this
  exact riEnd X1 this
 | cons k l =>
  cases l with
  | nil =>
   refine twoInts_elim h fun a b σ1 e1 e2 hl=>some_ifE hl fun hc ql=>?_
   dsimp only at e2 ql
   subst ql
   refine callT G ok hi hn hv h1 hs hs2 gA S (vs:=[.int a,.int b]) (AM.bind_some.mpr ⟨_,_,e1,AM.bind_some.mpr ⟨_,_,AM.bind_some.mpr ⟨_,_,e2,rfl⟩,rfl⟩⟩) fun cvs F1 R1 s1 X1 S1 V1=>?_
   obtain ⟨cv,cu,rfl,a1,a2⟩:=V1.inv2
   obtain ⟨t,rfl⟩:=a1.inv
   obtain ⟨u,rfl⟩:=a2.inv
   refine call_range_2 ?_
   exact riEnd X1 (ri_range_core (x:=x) (p:=p) (A:=A) ok (S1.up (tk:=s1.toks + 1) fun _ _ e=>Heap.get?_push_of_some _ e) (IsRange.new s1.heap a b 1 t u s1.toks) hc.1 hc.2.1 hc.2.2.1 hc.2.2.2)
  | cons k2 l=>exact none_some h
end
section
variable {c:Cx} {d:Nat} {env:Env}
noncomputable def enumV (i:Nat):List V -> List V
 | []=>[]
 | v :: vs=>.tup [.int i,v] :: enumV (i + 1) vs
theorem enumV_len {i:Nat} {vs:List V}:(enumV i vs).length = vs.length:=by
 induction vs generalizing i with
 | nil=>rfl
 | cons v vs ih=>exact congrArg Nat.succ ih
theorem enumV_get {k i:Nat} {vs:List V} {v:V} (h:(enumV k vs)[i]? = some v):∃ u,vs[i]? = some u ∧ v = .tup [.int ((k + i:Nat):Int),u]:=by
 induction vs generalizing k i with
 | nil=>exact none_some h
 | cons u vs ih =>
  cases i with
  | zero=>cases h; exact ⟨u,rfl,rfl⟩
  | succ i =>
   obtain ⟨w,h1,h2⟩:=ih (k:=k + 1) h
   exact ⟨w,h1,by rw [h2,show k + (i + 1) = k + 1 + i by lia]⟩
noncomputable def mEnum:List (AM V) -> AM (List V)
 | [m]=>do let v ← mItems m; pure (enumV 0 v)
 | _=>failure
theorem ri_enum (G:Glo c) (ok:EnvOK env) {elts:List PySem.Expr} {n:Nat} {p q pos:Pos} {y:Str} {i:Nat} {e:PySem.Expr} {m:AM V} (hi:env.scope.names[i]? = some (y,.globalImplicit)) (hn:c.mg y = none) (hv:c.mb y = some (.type "enumerate"))
  (h1:RX c d env pos [e] [m]) (hs:(backTo pos (starEach [e] env)).any (·.1) = false:=by rfl) (hs2:(backTo pos (starEach [e] env)).head? = some (false,eval e env):=by rfl):RI c d env (.Tuple elts n p) (.Call (.Name y q) [e] [] pos) (mEnum [m]):=by
 refine ⟨fun A gA K F R σ s S vs σ' h=>?_⟩
 revert h
 refine AM.bind_elim fun v σ1 e1 h=>?_
 refine some2E h fun z0_ z1_=>?_
 subst z0_
 subst z1_
 refine callT G ok hi hn hv h1 hs hs2 gA S (vs:=[.lst v]) (AM.bind_some.mpr ⟨_,_,mItems_some e1,rfl⟩) fun cvs F1 R1 s1 X1 S1 V1=>?_
 obtain ⟨cv,rfl,a1⟩:=V1.inv1
 obtain ⟨l,cvs,n,rfl,g1,g2⟩:=a1.inv
 have g1':=S1.st.hF _ _ g1
 have hlt:=Heap.lt_size g1'
 refine call_enumerate_list ⟨_,g1',rfl,n,rfl⟩ fun h' he hl hsz hk=>wpAny_pyIter_enum he ?_
 obtain ⟨S2,hw⟩:=S1.fit ok (h':=h') (tk:=s1.toks) hk (l:=[s1.heap.objs.size + 1,s1.heap.objs.size]) (fun b hb=>by
  rcases List.mem_cons.mp hb with rfl | hb
  ·exact Nat.le_succ _
  ·rw [List.mem_singleton.mp hb]; exact Nat.le_refl _)
 refine ⟨F1,R1,_,_,_,_,X1,S2,rfl,hw,?_,turnsT (fun A hh=>WalksT.enumerate hh (s1.heap.objs.size + 1) s1.heap.objs.size l (Nat.succ_ne_self _) (Nat.ne_of_lt (Nat.lt_succ_of_lt hlt)) (Nat.ne_of_lt hlt) cvs.toArray) (by rw [List.size_toArray,g2.length,enumV_len]) (fun i cs v' hp hx=>?_) (fun b hb=>?_) fun i h2 hi2 b hb=>?_⟩
 ·exact ⟨⟨_,he⟩,hl,⟨_,hk _ _ g1',rfl,n,rfl⟩⟩
 ·obtain ⟨t,x,h3,rfl⟩:=hp
  obtain ⟨u,h4,rfl⟩:=enumV_get hx
  obtain ⟨cu,h5,h6⟩:=g2.get h4
  have:cvs[i]? = some x:=(List.getElem?_toArray.symm.trans h3)
  obtain rfl:=Option.some.inj (this.symm.trans h5)
  refine ⟨_,rfl,.cons ?_ (.cons h6 .nil)⟩
  rw [Nat.zero_add]; exact .int _ _
 ·rcases List.mem_cons.mp hb with rfl | hb
  ·exact .inl (List.mem_cons_self ..)
  rcases List.mem_cons.mp hb with rfl | hb
  ·exact .inl (List.mem_cons_of_mem _ (List.mem_cons_self ..))
  ·rw [List.mem_singleton.mp hb]; exact .inr ⟨_,g1⟩
 ·obtain ⟨⟨old,z⟩,⟨o,z2,_⟩,_⟩:=hi2
  rcases List.mem_cons.mp hb with rfl | hb
  ·exact ⟨_,z⟩
  ·rw [List.mem_singleton.mp hb]; exact ⟨_,z2⟩
noncomputable def zipV:List V -> List V -> List V
 | [],_=>[]
 | _ :: _,[]=>[]
 | a :: as,b :: bs=>.tup [a,b] :: zipV as bs
theorem zipV_len {as bs:List V}:(zipV as bs).length = min as.length bs.length:=by
 induction as generalizing bs with
 | nil=>exact (Nat.zero_min _).symm
 | cons a as ih =>
  cases bs with
  | nil=>exact (Nat.min_zero _).symm
  | cons b bs=>exact (congrArg Nat.succ ih).trans (Nat.succ_min_succ _ _).symm
theorem zipV_get {as bs:List V} {i:Nat} {v:V} (h:(zipV as bs)[i]? = some v):Ex2 fun a b=>And3 (as[i]? = some a) (bs[i]? = some b) (v = .tup [a,b]):=by
 induction as generalizing bs i with
 | nil=>exact none_some h
 | cons a as ih =>
  cases bs with
  | nil=>exact none_some h
  | cons b bs =>
   cases i with
   | zero=>cases h; exact ⟨a,b,rfl,rfl,rfl⟩
   | succ i=>exact ih (bs:=bs) h
noncomputable def mZip:List (AM V) -> AM (List V)
 | [m,k]=>do
  let v ← mItems m
  let u ← mItems k
  pure (zipV v u)
 | _=>failure
theorem ri_zip (G:Glo c) (ok:EnvOK env) {elts:List PySem.Expr} {n:Nat} {p q pos:Pos} {y:Str} {i:Nat} {e e2:PySem.Expr} {m k:AM V} (hi:env.scope.names[i]? = some (y,.globalImplicit)) (hn:c.mg y = none) (hv:c.mb y = some (.type "zip"))
  (h1:RX c d env pos [e,e2] [m,k]) (hs:(backTo pos (starEach [e,e2] env)).any (·.1) = false:=by rfl) (hs2:(backTo pos (starEach [e,e2] env)).head? = some (false,eval e env):=by rfl):RI c d env (.Tuple elts n p) (.Call (.Name y q) [e,e2] [] pos) (mZip [m,k]):=by
 refine ⟨fun A gA K F R σ s S vs σ' h=>?_⟩
 revert h
 refine AM.bind_elim fun v σ1 e1 h=>?_
 revert h
 refine AM.bind_elim fun u σ2 e3 h=>?_
 cases h
 refine callT G ok hi hn hv h1 hs hs2 gA S (vs:=[.lst v,.lst u]) (AM.bind_some.mpr ⟨_,_,mItems_some e1,AM.bind_some.mpr ⟨_,_,AM.bind_some.mpr ⟨_,_,mItems_some e3,rfl⟩,rfl⟩⟩) fun cvs F1 R1 s1 X1 S1 V1=>?_
 obtain ⟨cv,cu,rfl,a1,a2⟩:=V1.inv2
 obtain ⟨l1,cvs,n,rfl,g1,g2⟩:=a1.inv
 obtain ⟨l2,dvs,n2,rfl,k1,k2⟩:=a2.inv
 have g1':=S1.st.hF _ _ g1
 have k1':=S1.st.hF _ _ k1
 have hlt:=Heap.lt_size g1'
 have hlt2:=Heap.lt_size k1'
 refine call_zip_2 ⟨_,g1',rfl,n,rfl⟩ ⟨_,k1',rfl,n2,rfl⟩ fun h' z1 z2 z3 z4 z5 hsz hk=>wpAny_pyIter_zip z1 ?_
 obtain ⟨N,hN⟩:∃ N,N = s1.heap.objs.size:=⟨_,rfl⟩
 rw [← hN] at z1 z2 z3 z4 z5 hsz hlt hlt2
 rw [← hN]
 obtain ⟨S2,hw⟩:=S1.fit ok (h':=h') (tk:=s1.toks) hk (l:=[N + 4,N + 3,N,N + 1,N + 2]) (by
  rw [← hN]
  exact all_cons (Nat.le_add_right _ _) <| all_cons (Nat.le_add_right _ _) <| all_cons (Nat.le_refl _) <| all_cons (Nat.le_add_right _ _) <| all_cons (Nat.le_add_right _ _) all_nil)
 obtain ⟨F2,X2,y,S3,z⟩:=S2.freeze (fun a=>a == N + 2) fun a ha=>by
  have ha:a = N + 2:=by simpa using ha
  subst ha
  have o:=hw (N + 2) (by simp)
  exact ⟨o.k,fun g n o' l=>o.l _ _ _ _ l rfl,o.L,o.c⟩
 have g:∀ a,Out env K F1 R1 σ' a -> a ≠ N + 2 -> Out env K F2 R1 σ' a:=fun a o hne=>⟨o.k,(z a (beq_eq_false_iff_ne.mpr hne)).trans o.f,o.l,o.L,o.c⟩
 have hw2:∀ a ∈ [N + 4,N + 3,N,N + 1],Out env K F2 R1 σ' a:=all_cons (g (N + 4) (hw _ (.head _)) (Nat.ne_of_gt (Nat.add_lt_add_left (by decide) N))) <| all_cons (g (N + 3) (hw _ (.tail _ (.head _))) (Nat.ne_of_gt (Nat.add_lt_add_left (by decide) N))) <| all_cons (g N (hw _ (.tail _ (.tail _ (.head _)))) (Nat.ne_of_lt (Nat.lt_add_of_pos_right (by decide)))) <| all_cons (g (N + 1) (hw _ (.tail _ (.tail _ (.tail _ (.head _))))) (Nat.ne_of_lt (Nat.add_lt_add_left (by decide) N))) all_nil
 have D:ZipApart (N + 4) (N + 2) (N + 3) N (N + 1) l1 l2:=by constructor <;> first | exact Nat.ne_of_lt (Nat.lt_of_lt_of_le hlt (Nat.le_add_right _ _)) | exact Nat.ne_of_lt (Nat.lt_of_lt_of_le hlt2 (Nat.le_add_right _ _)) | exact Nat.ne_of_lt hlt | exact Nat.ne_of_lt hlt2 | exact Nat.ne_of_lt (by lia) | exact Nat.ne_of_gt (by lia)
 refine ⟨F2,R1,_,_,_,_,X1.trans X2,S3,rfl,hw2,?_,turnsT (fun A hh=>WalksT.zip2 hh (N + 4) (N + 2) (N + 3) N (N + 1) l1 l2 D cvs.toArray dvs.toArray) (by rw [List.size_toArray,List.size_toArray,g2.length,k2.length,zipV_len]) (fun i cs v' hp hx=>?_) (fun b hb=>?_) fun i h2 hi2 b hb=>?_⟩
 ·exact ⟨z1,z2,⟨_,_,z3⟩,z4,z5,⟨_,hk _ _ g1',rfl,n,rfl⟩,⟨_,hk _ _ k1',rfl,n2,rfl⟩⟩
 ·obtain ⟨cx,cy,h3,h4,rfl⟩:=hp
  obtain ⟨va,vb,h5,h6,rfl⟩:=zipV_get hx
  obtain ⟨cu,h7,h8⟩:=g2.get h5
  obtain ⟨cu2,h9,h10⟩:=k2.get h6
  have:cvs[i]? = some cx:=(List.getElem?_toArray.symm.trans h3)
  obtain rfl:=Option.some.inj (this.symm.trans h7)
  have:dvs[i]? = some cy:=(List.getElem?_toArray.symm.trans h4)
  obtain rfl:=Option.some.inj (this.symm.trans h9)
  exact ⟨_,rfl,.cons (h8.ext X2) (.cons (h10.ext X2) .nil)⟩
 ·refine all_cons (P:=fun b=>b ∈ [N + 4,N + 3,N,N + 1] ∨ ∃ o,F2.get? b = some o) ?_ (all_cons ?_ (all_cons ?_ (all_cons ?_ (all_cons ?_ (all_cons ?_ (all_cons ?_ all_nil)))))) b hb
  ·exact .inl (.head _)
  ·exact .inr ⟨_,(y _ (by simp)).trans z2⟩
  ·exact .inl (.tail _ (.head _))
  ·exact .inl (.tail _ (.tail _ (.head _)))
  ·exact .inl (.tail _ (.tail _ (.tail _ (.head _))))
  ·exact .inr ⟨_,X2.f _ _ g1⟩
  ·exact .inr ⟨_,X2.f _ _ k1⟩
 ·obtain ⟨w1,w2,⟨_,_,w3⟩,⟨o4,w4,_⟩,⟨o5,w5,_⟩,_⟩:=hi2
  exact all_cons (P:=fun b=>∃ o,h2.get? b = some o) ⟨_,w1⟩ (all_cons ⟨_,w3⟩ (all_cons ⟨_,w4⟩ (all_cons ⟨_,w5⟩ all_nil))) b hb
end
section
variable {c:Cx} {d:Nat} {env:Env}
theorem storedH_all {F:Heap} {xs:List (List Int × Addr × Value)} {ks:List Int} {b:Addr} {cv:Value} (h:∀ y ∈ xs,c.tk.is F y.1 y.2.1) (hb:c.tk.is F ks b):∀ y ∈ storedH xs ks b cv,c.tk.is F y.1 y.2.1:=by
 intro y hy
 unfold storedH at hy
 split at hy
 ·obtain ⟨y0,hy0,rfl⟩:=List.mem_map.mp hy
  have:=h y0 hy0
  unfold putAt
  split <;> exact this
 ·rcases List.mem_append.mp hy with hy | hy
  ·exact h y hy
  ·rw [List.mem_singleton.mp hy]; exact hb
noncomputable def setO (k v:V) (g:Bool) (n:Nat) (σ:St):O -> Option (Unit × St)
 | .list vs=>k.asInt.bind fun i=>if 0 ≤ i ∧ i < vs.length ∧ vs.length < lid ∧ (g = true -> v.clean = true) then some ((),σ.put g n (.list (vs.set i.toNat v))) else none
 | .dctI es=>k.asInt.bind fun i=>if es.length < lid ∧ (g = true -> v.clean = true) then some ((),σ.put g n (.dctI (putK es i v))) else none
 | .dctT es=>k.key.bind fun ks=>if es.length < lid ∧ (g = true -> v.clean = true) then some ((),σ.put g n (.dctT (putK es ks v))) else none
 | _=>none
noncomputable def setSub (x k v:V):AM Unit:=fun σ=>(x.own σ).bind fun p=>setO k v p.1 p.2.1 σ p.2.2
set_option tactic.hygienic true in
theorem Sim.setSub {A:Around} (uA:OkU A) {K F:Heap} {R:Adrs} {σ σ':St} {s:Shared} (S:Sim c env K F R σ s) {cx ck cv:Value} {x k v:V} (hx:VIn c F R cx x) (hk:VIn c F R ck k) (hv:VIn c F R cv v) {u:Unit} (h:setSub x k v σ = some (u,σ')) {Q:Unit -> Shared -> Prop} {E:Value -> Shared -> Prop}
  (q:∀ s',Sim c env K F R σ' s' -> Q () s'):wpAny (model c.prog c.w) A (setItem cx ck cv) Q E s:=by
 refine obind_elim h fun p ho h1=>?_
 obtain ⟨g,n,o⟩:=p
 refine own_in hx ho fun a ea hx' ha e1=>?_
 subst ea
 cases o with
 | list vs =>
  refine obind_elim h1 fun i hi h2=>some_ifE h2 fun hc h3=>?_
  obtain ⟨rfl,rfl⟩:=Prod.mk.inj h3
  obtain ⟨t,rfl⟩:=asInt_in hk hi
  obtain ⟨a',cvs,m,ea,ha',g1,g2,g3⟩:=ownL_in S hx' e1
  cases ea
  have hl:cvs.length = vs.length:=g2.length
  refine setSeq_exact g1 hc.1 (by have:=hc.2.2.1; unfold lid at this; lia) (by rw [hl]; exact hc.2.1) (q _ ?_)
  exact S.newList ha e1 g1 (dvs:=cvs.set i.toNat cv) (g2.set (Mine.fit hv hc.2.2.2) _) (by simp)
 | dctI es =>
  refine obind_elim h1 fun i hi h2=>some_ifE h2 fun hc h3=>?_
  obtain ⟨rfl,rfl⟩:=Prod.mk.inj h3
  obtain ⟨t,rfl⟩:=asInt_in hk hi
  have L:Live R σ.sel g n a (.dctI es):=⟨ha,e1,fun e=>nomatch e⟩
  obtain ⟨W1,W2,xs,W3,W4⟩:=S.st.own _ _ _ _ L
  refine wpAny_setItem_pairs (knd:=c.ik) (intKind_is _ _ i t) W3 (fun h' hd hs=>q _ ?_) (by rw [W4.length]; exact Nat.le_trans (Nat.le_of_lt hc.1) lid_line)
  exact S.setOwn L hs ⟨_,hd,W4.put _ (Mine.fit hv hc.2)⟩
 | dctT es =>
  refine obind_elim h1 fun ks hks h2=>some_ifE h2 fun hc h3=>?_
  obtain ⟨rfl,rfl⟩:=Prod.mk.inj h3
  have L:Live R σ.sel g n a (.dctT es):=⟨ha,e1,fun e=>nomatch e⟩
  refine S.st.ownE _ _ _ _ L fun W1 W2 W3=>?_
  obtain ⟨xs,o,des,ep,w1,w2,w3,w4,w5,w6,w7⟩:=W3
  obtain ⟨b,rfl,hb⟩:=key_is hk hks
  refine wpAny_setItem_heap (knd:=c.tk) uA.in1 (tkey_stays hb S.st.hF) ⟨o,des,ep,w1,w2,w3,w4,fun y hy=>tkey_stays (w5 y hy) S.st.hF,w6⟩ (fun h' hd hs=>q _ ?_) (by rw [w7.length]; exact Nat.le_trans (Nat.le_of_lt hc.1) lid_line)
  obtain ⟨o',es',ep',z1,z2,z3,z4,z5,z6⟩:=hd
  exact S.setOwn L hs ⟨_,o',es',ep',z1,z2,z3,z4,storedH_all w5 hb,z6,w7.put _ b (Mine.fit hv hc.2)⟩
 | _=>exact none_some h1
noncomputable def sSub (o i e:AM V):AM AFlow:=do let v ← e; let x ← o; let k ← i; setSub x k v; pure .next
theorem rsSub {o i e:PySem.Expr} {p pos:Pos} {mo mi me:AM V} (h1:RE c d env (eval o env) mo) (h2:RE c d env (eval i env) mi) (h3:RE c d env (eval e env) me) (hs:swapsWith e (some (.Subscript o i p)) pos.line env = pure false:=by rfl) :
  RS c d env (exec (.Assign [.Subscript o i p] e pos) env) (sSub mo mi me):=by
 refine ⟨fun A gA K F R σ s S v σ' h=>?_⟩
 revert h
 refine AM.bind_elim fun v1 σ1 e1 h=>?_
 revert h
 refine AM.bind_elim fun v2 σ2 e2 h=>?_
 revert h
 refine AM.bind_elim fun v3 σ3 e3 h=>?_
 revert h
 refine AM.bind_elim fun u σ4 e4 h=>?_
 refine some2E h fun z0_ z1_=>?_
 subst z0_
 subst z1_
 refine wpAny_Assign_Subscript (h3.go gA S e1 fun cv F1 R1 s1 X1 S1 V1=>h1.go gA S1 e2 fun cx F2 R2 s2 X2 S2 V2=>h2.go gA S2 e3 fun ck F3 R3 s3 X3 S3 V3=>?_) hs
 exact S3.setSub gA.u (V2.ext X3) V3 ((V1.ext X2).ext X3) e4 fun s' S'=>⟨F3,R3,(X1.trans X2).trans X3,S',.next⟩
end
noncomputable def putF (x:Str) (v:V):List (Str × V) -> List (Str × V)
 | []=>[(x,v)]
 | (y,u) :: fs=>if y = x then (y,v) :: fs else (y,u) :: putF x v fs
theorem putF_cons {x y:Str} {u v:V} {fs:List (Str × V)}:putF x v ((y,u) :: fs) = if y = x then (y,v) :: fs else (y,u) :: putF x v fs:=rfl
theorem putF_mem {x y:Str} {v:V} {fs:List (Str × V)} (h:y ∈ (putF x v fs).map (·.1)):y = x ∨ y ∈ fs.map (·.1):=by
 induction fs with
 | nil=>exact .inl (List.mem_singleton.mp h)
 | cons f fs ih =>
  obtain ⟨z,u⟩:=f
  rw [putF_cons] at h
  split at h
  ·exact .inr h
  ·simp only [List.map_cons,List.mem_cons] at h ⊢
   rcases h with h | h
   ·exact .inr (.inl h)
   ·rcases ih h with h | h
    ·exact .inl h
    ·exact .inr (.inr h)
theorem putF_nd {x:Str} {v:V} {fs:List (Str × V)} (h:(fs.map (·.1)).Nodup):((putF x v fs).map (·.1)).Nodup:=by
 induction fs with
 | nil=>exact List.pairwise_singleton _ _
 | cons f fs ih =>
  obtain ⟨z,u⟩:=f
  rw [List.map_cons,List.nodup_cons] at h
  rw [putF_cons]
  split
  ·rw [List.map_cons,List.nodup_cons]; exact h
  ·rename_i hz
   rw [List.map_cons,List.nodup_cons]
   refine ⟨fun m=>?_,ih h.2⟩
   rcases putF_mem m with m | m
   ·exact hz m
   ·exact h.1 m
section
variable {c:Cx} {d:Nat} {env:Env}
theorem FAll.strs {F:Heap} {R:Adrs} {es:List DictEntry} {fs:List (Str × V)} (h:FAll c F R es fs):∀ e ∈ es,∃ x t,e.key = .str x t:=by
 induction es generalizing fs with
 | nil=>intro e he; cases he
 | cons e es ih =>
  cases h with
  | cons h1 h2 =>
   intro e he
   rcases List.mem_cons.mp he with rfl | he
   ·exact ⟨_,_,rfl⟩
   ·exact ih h2 e he
theorem FAll.put {F:Heap} {R:Adrs} {es:List DictEntry} {fs:List (Str × V)} (h:FAll c F R es fs) {x:Str} {hash:Int} {t:Tok} {cv:Value} {v:V} (hv:VIn c F R cv v) :
  FAll c F R (putIn (·.key.isStr x) (fun e=>{ e with val:=cv }) ⟨hash,.str x t,cv⟩ es) (putF x v fs):=by
 induction es generalizing fs with
 | nil=>cases h; exact .cons hv .nil
 | cons e es ih =>
  cases h with
  | @cons h0 y t0 cu es v0 fs h1 h2 =>
   rw [putF_cons]
   split
   ·rename_i hy
    subst hy
    rw [putIn_hit _ _ _ _ _ (by show (Value.str y t0).isStr y = true; simp [Value.isStr])]
    exact .cons hv h2
   ·rename_i hy
    rw [putIn_miss _ _ _ _ _ (by show (Value.str y t0).isStr x = false; simp [Value.isStr,hy])]
    exact .cons h1 (ih h2)
theorem putF_len {x:Str} {v:V} {fs:List (Str × V)}:(putF x v fs).length ≤ fs.length + 1:=by
 induction fs with
 | nil=>exact Nat.le_refl _
 | cons f fs ih =>
  obtain ⟨y,u⟩:=f
  rw [putF_cons]
  split
  ·exact Nat.le_succ _
  ·rw [List.length_cons,List.length_cons]; (exact Nat.lt_succ_of_le ‹_›)
theorem Sim.osa {A:Around} {K F:Heap} {R:Adrs} {σ:St} {s:Shared} (S:Sim c env K F R σ s) {C:Addr} {names:List Str} (ck:ClsOK c C names) {x:Str} (hx:x ∈ names) {a dx:Addr} {cv:Value} {v:V} {g:Bool} {n:Nat} {fs:List (Str × V)}
  (g1:F.get? a = some (instObj C dx)) (g2:(R.sel g)[n]? = some dx) (e:(σ.sel g)[n]? = some (.inst fs)) (hv:VIn c F R cv v) (hc:g = true -> v.clean = true) (hl:fs.length < 100) {P:Result -> Shared -> Prop} {tk:Tok}
  (q:∀ s',Sim c env K F R (σ.put g n (.inst (putF x v fs))) s' -> P (.ok (.ret .none)) s'):codeAny (model c.prog c.w) A (.call (.builtin "object.__setattr__") ⟨[.ref a,.str x tk,cv],[]⟩) P s:=by
 have L:Live R σ.sel g n dx (.inst fs):=⟨g2,e,by intro e; cases e⟩
 refine hG9 fun P_ b_=>?_
 obtain ⟨_,_,es,m,h1,h2,h3⟩:=S.st.own _ _ _ _ L
 have I:InstAt s.heap a (instObj C dx) C (some (dicO es m)):=⟨S.st.hF _ _ g1,rfl,rfl,h1⟩
 have X:=S.X ck.X
 refine b_ ?_; clear b_ P_
 refine osa_open (r:=none) X I ck.po (by unfold takerIn; rw [ck.nm x hx]; rfl) fun b=>?_
 obtain ⟨cd,hcd,hd⟩:=ck.hd
 have hat:=S.st.hF _ _ g1
 refine wpAny_bind (wpAny_pure (wpAny_bind (wpAny_bind (wpAny_loadPart hat (wpAny_bind ((looks_clsIn X hcd).here ?_))))))
 rw [hd]
 refine wpAny_pure (a:=some dx) (wpAny_bind (wpAny_pure (wpAny_bind ?_)))
 unfold nsSet
 refine wpAny_bind (wpAny_bind (wpAny_askSetting (wpAny_pure (wpAny_bind (wpAny_mkText (wpAny_bind (wpAny_loadPart h1 ?_)))))))
 show wpAny _ _ (if aRefKeyMayBeTheName x es.toArray then _ else _) _ _ _
 have cc:(!es.toArray.any (·.key.isStr x) && es.toArray.any (·.refKey)) = false:=by
  have:es.toArray.any (·.refKey) = false:=by
   rw [← Array.any_toList,List.any_eq_false]
   intro en he
   obtain ⟨y,t,hk⟩:=h2.strs en he
   unfold DictEntry.refKey
   rw [hk]; simp
  rw [this,Bool.and_false]
 rw [aRefKeyMayBeTheName_at,cc]
 refine wpAny_updatePart h1 ?_
 have z:∀ hash t,Obj.putName x hash (.str x t) cv (dicO es m) = dicO (putIn (·.key.isStr x) (fun e=>{ e with val:=cv }) ⟨hash,.str x t,cv⟩ es) (if es.any (·.key.isStr x) then m else m + 1):=fun hash t=>putName_eq ..
 have hl2:es.length = fs.length:=h2.length
 have h2':=h2.put (x:=x) (hash:=PyData.keyHash c.w.params x) (t:=s.toks) (Mine.fit hv hc)
 have g3:(s.heap.update dx (Obj.putName x (PyData.keyHash c.w.params x) (.str x s.toks) cv)).get? dx = some _:=Heap.get?_update_self _ h1 (by rw [z]; rfl)
 rw [z] at g3
 refine wpAny_bind (wpAny_lookBehind g3 (pastItsLine_dict ?_) ?_)
 ·rw [List.size_toArray,h2'.length,sizeLine_eq]
  have:=putF_len (x:=x) (v:=v) (fs:=fs)
  (exact nD2 ‹_› ‹_› (by decide))
 ·refine wpAny_pure (q _ ?_)
  exact S.setOwn L (Heap.SameBut.update ..) ⟨_,_,g3,h2',putF_nd h3⟩
theorem Sim.setAttr {A:Around} {K F:Heap} {R:Adrs} {σ:St} {s:Shared} (S:Sim c env K F R σ s) {C:Addr} {names:List Str} (ck:ClsOK c C names) {x:Str} (hx:x ∈ names) {cx cv:Value} {v:V} {g:Bool} {n:Nat} {fs:List (Str × V)}
  (ho:VIn c F R cx (.obj g C n)) (e:(σ.sel g)[n]? = some (.inst fs)) (hv:VIn c F R cv v) (hc:g = true -> v.clean = true) (hl:fs.length < 100) {Q:Unit -> Shared -> Prop} {E:Value -> Shared -> Prop}
  (q:∀ s',Sim c env K F R (σ.put g n (.inst (putF x v fs))) s' -> Q () s'):wpAny (model c.prog c.w) A (PySem.setAttr cx x cv) Q E s:=by
 refine hG9 fun P_ b_=>?_
 obtain ⟨a,dx,rfl,g1,g2⟩:=ho.inv
 have L:Live R σ.sel g n dx (.inst fs):=⟨g2,e,by intro e; cases e⟩
 obtain ⟨_,_,es,m,h1,h2,h3⟩:=S.st.own _ _ _ _ L
 have I:InstAt s.heap a (instObj C dx) C (some (dicO es m)):=⟨S.st.hF _ _ g1,rfl,rfl,h1⟩
 refine b_ ?_; clear b_ P_
 refine set_plain (S.X ck.X) I ck.sa ?_
 exact (S.tok (s.toks + 1)).osa ck hx g1 g2 e hv hc hl q
noncomputable def setAt (x:Str) (o v:V):AM Unit:=fun σ=>V.casesOn (motive_1:=fun _=>Option (Unit × St)) o none none (fun _=>none) (fun _=>none) (fun _=>none) (fun _=>none) (fun _=>none) (fun _=>none) (fun _=>none) (fun _=>none) (fun _ _=>none) (fun g C n=>((σ.sel g)[n]?.bind (instO C)).bind fun p=>if p.2.length < 100 ∧ (g = true -> v.clean = true) then some ((),σ.put g n (.inst (putF x v p.2))) else none) (fun _ _=>none)
noncomputable def isCls (C:Addr) (v:V):Bool:=V.casesOn (motive_1:=fun _=>Bool) v false false (fun _=>false) (fun _=>false) (fun _=>false) (fun _=>false) (fun _=>false) (fun _=>false) (fun _=>false) (fun _=>false) (fun _ _=>false) (fun _ C' _=>C' == C) (fun _ _=>false)
set_option tactic.hygienic true in
theorem Sim.setAt {A:Around} {K F:Heap} {R:Adrs} {σ σ':St} {s:Shared} (S:Sim c env K F R σ s) {C:Addr} {names:List Str} (ck:ClsOK c C names) {x:Str} (hx:x ∈ names) {cx cv:Value} {o v:V} (hC:isCls C o = true) {u:Unit}
  (ho:VIn c F R cx o) (hv:VIn c F R cv v) (h:Mine.setAt x o v σ = some (u,σ')) {Q:Unit -> Shared -> Prop} {E:Value -> Shared -> Prop} (q:∀ s',Sim c env K F R σ' s' -> Q () s'):wpAny (model c.prog c.w) A (PySem.setAttr cx x cv) Q E s:=by
 refine hG9 fun P_ b_=>?_
 cases o with
 | obj g C' n =>
  have hC:C' = C:=by simpa [isCls] using hC
  subst hC
  refine obind_elim h fun p e h=>obind_elim e fun o e1 e=>some_ifE h fun hc h=>?_
  obtain ⟨rfl,rfl⟩:=Prod.mk.inj h
  obtain ⟨C2,fs⟩:=p
  have e:=instO_is e
  subst e
  refine b_ ?_; clear b_ P_
  exact S.setAttr ck hx ho e1 hv hc.2 hc.1 q
 | _=>cases hC
noncomputable def sAttr (C:Addr) (x:Str) (mo me:AM V):AM AFlow:=do let v ← me; let o ← mo; if isCls C o = true then do setAt x o v; pure .next else failure
theorem rsAttr {C:Addr} {names:List Str} (ck:ClsOK c C names) {x:Str} (hx:x ∈ names) {o e:PySem.Expr} {p pos:Pos} {mo me:AM V} (h1:RE c d env (eval o env) mo) (h2:RE c d env (eval e env) me) (hs:swapsWith e (some (.Attribute o x p)) pos.line env = pure false:=by rfl) :
  RS c d env (exec (.Assign [.Attribute o x p] e pos) env) (sAttr C x mo me):=by
 refine ⟨fun A gA K F R σ s S v σ' h=>?_⟩
 refine hG9 fun P_ b_=>?_
 revert h
 refine AM.bind_elim fun v1 σ1 e1 h=>?_
 revert h
 refine AM.bind_elim fun v2 σ2 e2 h=>?_
 replace h:=AM.ite_some h
 obtain ⟨hC,h⟩:=h
 revert h
 refine AM.bind_elim fun u σ3 e3 h=>?_
 refine some2E h fun z0_ z1_=>?_
 subst z0_
 subst z1_
 refine b_ ?_; clear b_ P_
 refine plainObj_wpAny_Assign_Attribute (h2.go gA S e1 fun cv F1 R1 s1 X1 S1 V1=>h1.go gA S1 e2 fun cx F2 R2 s2 X2 S2 V2=>?_) hs
 exact S2.setAt ck hx hC V2 (V1.ext X2) e3 fun s' S'=>⟨F2,R2,X1.trans X2,S',.next⟩
noncomputable def sAugA (C:Addr) (i:Nat) (x:Str) (f:V -> V -> Option V) (mo me:AM V):AM AFlow:=do
 let o ← mo
 let old ← (fun σ=>(attrOf C i x σ o).map fun u=>(u,σ):AM V)
 let v ← me
 if isCls C o = true then do
  match f old v with
  | some r=>do setAt x o r; pure .next
  | Option.none=>failure
 else failure
theorem rsAugA {C:Addr} {names:List Str} (ck:ClsOK c C names) {op:Operator} {f:V -> V -> Option V} (hf:InpIs c op f) {i:Nat} {x:Str} (hx:x ∈ names) {o e:PySem.Expr} {p pos:Pos} {mo me:AM V} (h1:RE c d env (eval o env) mo) (h2:RE c d env (eval e env) me) :
  RS c d env (exec (.AugAssign (.Attribute o x p) op e pos) env) (sAugA C i x f mo me):=by
 refine ⟨fun A gA K F R σ s S v σ' h=>?_⟩
 refine hG9 fun P_ b_=>?_
 revert h
 refine AM.bind_elim fun v1 σ1 e1 h=>?_
 revert h
 refine AM.bind_elim fun v2 σ2 e2 h=>?_
 replace e2:=Option.map_eq_some_iff.mp e2
 obtain ⟨v2',e2,q⟩:=e2
 cases q
 revert h
 refine AM.bind_elim fun v3 σ3 e3 h=>?_
 replace h:=AM.ite_some h
 obtain ⟨hC,h⟩:=h
 refine b_ ?_; clear b_ P_
 cases q:f v2 v3 with
 | none=>rw [q] at h; exact none_some h
 | some r =>
  rw [q] at h
  revert h
  refine AM.bind_elim fun u σ4 e4 h=>?_
  refine some2E h fun z0_ z1_=>?_
  subst z0_
  subst z1_
  obtain ⟨fs,e5,e6⟩:=attrOf_some e2
  refine wpAny_AugAssign_AttributeAny (h1.go gA S e1 fun cx F1 R1 s1 X1 S1 V1=>getAttr_is S1 ck hx V1 e5 e6 fun cu t V2=>h2.go gA (S1.tok t) e3 fun cv F2 R2 s2 X2 S2 V3=>?_)
  refine hf A F2 R2 s2 cu cv v2 v3 r (V2.ext X2) V3 q _ (fun cr tk V4=>?_)
  exact (S2.tok tk).setAt ck hx hC (V1.ext X2) V4 e4 fun s' S'=>⟨F2,R2,X1.trans X2,S',.next⟩
end
section
variable {c:Cx} {d:Nat} {fa:Addr}
theorem fn_core (G:Glo c) (f:Fn c fa) {nl:Nat} {m:AM AFlow} (h:∀ L,EnvOK (f.env L) -> RS c d (f.env L) (execs f.body (f.env L)) m) {A:Around} (gA:GoodA A (d + 1)) {K F:Heap} {R:Adrs} {T H:List O} {s:Shared} (S:Store c K F R (St.sel ⟨[],T,H⟩) s) {cvs:List Value} {vs:List V} {fl:AFlow} {σ':St}
  (hlen:cvs.length = f.pn.length) (hv:VAll c F R cvs vs) (hm:m ⟨vs ++ List.replicate (nl - vs.length) .undef,T,H⟩ = some (fl,σ')) {v:V} (hfl:fl = .ret v ∨ (fl = .next ∧ v = .none)) {P:Result -> Shared -> Prop}
  (q:∀ cv F' R' s',Ext K F R F' R' -> Store c K F' R' σ'.sel s' -> VIn c F' R' cv v -> P (.ok (.ret cv)) s'):codeAny (model c.prog c.w) A (.call (.ref fa) ⟨cvs,[]⟩) P s:=by
 obtain ⟨oc,od,osl,hlook⟩:=f.look
 have hX:c.fr.In s.heap:=fun a o e=>S.hK _ _ (S.base _ _ (G.X a o e))
 have hroom:A.depth < recursionLimit:=by show A.depth < 1000; have:=gA.2.1; (exact nH ‹_› (by decide))
 refine codeAny_call_function hroom (hX _ _ hlook) rfl f.co f.gen f.bod (f.code.keeps fun a o e=>S.hK _ _ (S.base _ _ e)) ?_
 rw [f.bind cvs hlen]
 have hkind:∀ n,∀ x ∈ f.pn.zip cvs,f.fd.scope.names.lookup x.1 = some .local ∨ (f.fd.scope.names.lookup x.1 = some .cell ∧ ((cellsFrom n f.fd.scope.names []).lookup x.1).isSome = true):=by
  intro n x hx
  obtain ⟨i,hi⟩:=List.mem_iff_getElem?.mp (List.of_mem_zip (show (x.1,x.2) ∈ _ from hx)).1
  rcases f.par i _ hi with q | q
  ·exact .inl (lookup_nd f.nd q)
  ·exact .inr ⟨lookup_nd f.nd q,W.cellsFrom_some _ _ _ (.inl (lookup_nd f.nd q))⟩
 rw [f.clo]
 refine wpAny_pure (wpAny_newFunctionEnv_cells f.kind (hkind _) fun env' he s' x=>?_)
 have he':env' = f.env s.heap.objs.size:=he
 subst he'
 obtain ⟨h₁,tk,rfl,hk⟩:=x.done
 refine ⟨(G.lim.keeps S.base |>.keeps S.hK).keeps hk,codeAny_func ?_⟩
 have ok:EnvOK (f.env s.heap.objs.size):=by
  refine ⟨f.kind,f.glo,f.blt,f.nd,f.dbg,x.apart,fun y a e=>?_⟩
  rcases cellsFrom_mem _ _ _ (mem_of_lookup e) with q | q
  ·cases q
  ·obtain ⟨i,hi⟩:=List.mem_iff_getElem?.mp q
   exact ⟨i,.inl hi⟩
 have new:∀ a,s.heap.objs.size ≤ a -> K.get? a = none ∧ F.get? a = none ∧ ∀ g n b o,Live R (St.sel ⟨[],T,H⟩) g n b o -> b ≠ a:=fun a ha=>by
  refine ⟨?_,?_,fun g n b o l e=>absurd (S.lowL l) (by rw [e]; exact Nat.not_lt.mpr ha)⟩
  ·cases q:K.get? a with
   | none=>rfl
   | some o=>exact absurd (Heap.lt_size (S.hK _ _ q)) (Nat.not_lt.mpr ha)
  ·cases q:F.get? a with
   | none=>rfl
   | some o=>exact absurd (Heap.lt_size (S.hF _ _ q)) (Nat.not_lt.mpr ha)
 have hlenv:=hv.length
 have at_:∀ (i:Nat) (y:Str) (k:NameKind) (u:V),f.fd.scope.names[i]? = some (y,k) -> (vs ++ List.replicate (nl - vs.length) V.undef)[i]? = some u -> u ≠ .undef -> f.pn[i]? = some y ∧ ∃ cv,cvs[i]? = some cv ∧ VIn c F R cv u:=by
  intro i y k u e e' hd
  rcases Nat.lt_or_ge i vs.length with q | q
  ·rw [List.getElem?_append_left q] at e'
   obtain ⟨cv,e1,e2⟩:=hv.get e'
   have hi:i < f.pn.length:=by rw [← hlen,hlenv]; exact q
   have h1:f.pn[i]? = some f.pn[i]:=List.getElem?_eq_getElem hi
   have:f.pn[i] = y:=by
    rcases f.par i _ h1 with z | z <;> (rw [e] at z; cases z; rfl)
   exact ⟨by rw [h1,this],cv,e1,e2⟩
  ·rw [List.getElem?_append_right q,List.getElem?_replicate] at e'
   split at e'
   ·cases e'; exact absurd rfl hd
   ·cases e'
 have S₁:Sim c (f.env s.heap.objs.size) K F R ⟨vs ++ List.replicate (nl - vs.length) .undef,T,H⟩ { s with heap:=h₁,toks:=tk }:=by
  have W:=new s.heap.objs.size (Nat.le_refl _)
  have eH:(St.sel ⟨vs ++ List.replicate (nl - vs.length) .undef,T,H⟩) = St.sel ⟨[],T,H⟩:=by funext b; cases b <;> rfl
  refine ⟨?_,W.1,W.2.1,fun g n b o l=>W.2.2 g n b o (eH ▸ l),⟨_,x.toInCall.ns,fun i y u e e' hd=>?_⟩,fun i y e=>?_,fun i y e=>?_⟩
  ·have:=S.up (tk:=tk) hk
   rw [eH]; exact this
  ·obtain ⟨h1,cv,h2,h3⟩:=at_ i y _ u e e' hd
   exact ⟨cv,bindL_get (f.kindAt _ e) _ _ _ i cv f.pnd h1 h2,h3⟩
  ·obtain ⟨a,ha⟩:=Option.isSome_iff_exists.mp (PySem.W.cellsFrom_some f.fd.scope.names (s.heap.objs.size + 1) [] (.inl (lookup_nd f.nd e)))
   have hL:=x.above _ _ (mem_of_lookup ha)
   have W:=new a (Nat.le_of_lt hL)
   refine ⟨a,_,ha,x.cell _ _ ha,fun _=>W.1,W.2.1,Nat.ne_of_gt hL,fun g n b o l=>W.2.2 g n b o (eH ▸ l),fun u e' hd=>?_⟩
   obtain ⟨h1,cv,h2,h3⟩:=at_ i y _ u e e' hd
   exact ⟨cv,bindC_get (f.kindAt _ e) _ _ _ i cv f.pnd h1 h2,h3⟩
  ·exact absurd rfl (f.nofree _ (List.mem_of_getElem? e))
 have gA':GoodA (A.deeper (f.env s.heap.objs.size)) d:=by
  exact ⟨gA.1,dA gA.2.1,dB gA.2.2⟩
 refine (h _ ok).go gA' S₁ hm fun fl' F' R' s' X' S' V'=>?_
 rcases hfl with rfl | ⟨rfl,rfl⟩
 ·obtain ⟨cu,rfl,V1'⟩:=V'.inv
  exact q _ F' R' _ X' S'.st V1'
 ·obtain rfl:fl' = .next:=V'.inv
  exact q _ F' R' _ X' S'.st .none
end
section
variable {c:Cx} {d:Nat} {env:Env} {K F:Heap} {R:Adrs} {σ:St} {s:Shared}
theorem Sim.enter0 (S:Sim c env K F R σ s) (ok:EnvOK env):Store c (keepK env K F R σ false s) F R σ.sel s:=by
 refine ⟨S.st.reach,fun a o e=>keepK_K S a o (S.st.base a o e),fun a o e=>(keepK_of S e).1,S.st.hF,fun a o e=>(keepK_of S e).2,S.st.len,S.st.apart,fun g n a o l=>?_⟩
 refine S.st.ownE _ _ _ _ l fun _ y2 y3=>?_
 exact ⟨keepK_G S ok (.inr rfl) l,y2,y3⟩
theorem Sim.leave0 (S:Sim c env K F R σ s) (ok:EnvOK env) {F':Heap} {R':Adrs} {σ':St} {s':Shared} (X:Ext (keepK env K F R σ false s) F R F' R') (S':Store c (keepK env K F R σ false s) F' R' σ'.sel s') :
  Ext K F R F' R' ∧ Sim c env K F' R' { σ' with loc:=σ.loc } s':=by
 have XK:Ext K F R F' R':=⟨X.f,X.g,X.t,fun a o e=>X.k a o (keepK_K S a o e)⟩
 have keep:∀ a o,(keepK env K F R σ false s).get? a = some o -> s'.heap.get? a = some o ∧ F'.get? a = none:=fun a o e=>⟨S'.hK a o e,S'.dis a o e⟩
 have eH:St.sel { σ' with loc:=σ.loc } = σ'.sel:=by funext b; cases b <;> rfl
 have L0:∃ q,(keepK env K F R σ false s).get? env.locals = some q:=by
  rw [keepK_L S]
  refine S.nsE fun m z1_ _=>?_
  obtain ⟨o,_,_,e,_⟩:=z1_
  exact ⟨o,e⟩
 refine ⟨XK,⟨⟨S'.reach,S.st.base,fun a o e=>S'.hK a o (keepK_K S a o e),S'.hF,fun a o e=>S'.dis a o (keepK_K S a o e),fun g=>?_,fun g n a o g' n' o' l1 l2=>?_,fun g n a o l=>?_⟩,S.lK,?_,fun g n a o l=>?_,?_,fun i x e=>?_,fun i x e=>?_⟩⟩
 ·rw [eH]; exact S'.len g
 ·rw [eH] at l1 l2; exact S'.apart _ _ _ _ _ _ _ l1 l2
 ·rw [eH] at l
  obtain ⟨y1,y2,y3⟩:=S'.own _ _ _ _ l
  refine ⟨?_,y2,y3⟩
  cases z:K.get? a with
  | none=>rfl
  | some w=>rw [keepK_K S a w z] at y1; cases y1
 ·obtain ⟨q,e⟩:=L0; exact (keep _ q e).2
 ·rw [eH] at l
  rintro rfl
  obtain ⟨q,e⟩:=L0
  rw [(S'.own _ _ _ _ l).1] at e; exact none_some e
 ·refine S.nsE fun m z1_ z=>?_
  obtain ⟨o,es,ep,e,r⟩:=z1_
  exact ⟨m,⟨o,es,ep,(keep _ o (by rw [keepK_L S]; exact e)).1,r⟩,fun i x v e e' d=>(by obtain ⟨cv,h1,h2⟩:=z i x v e e' d; exact ⟨cv,h1,h2.ext XK⟩)⟩
 ·refine S.cellE i x e fun a q e1 z3_ e3 e4 e5 e6 e7=>?_
  obtain ⟨o,e2,e2'⟩:=z3_
  have kc:(keepK env K F R σ false s).get? a = some o:=by rw [keepK_C e1 e4]; exact e2
  refine ⟨a,q,e1,⟨o,(keep a o kc).1,e2'⟩,e3,(keep a o kc).2,e5,fun g n b o' l=>?_,fun v h d=>(by obtain ⟨cv,h1,h2⟩:=e7 v h d; exact ⟨cv,h1,h2.ext XK⟩)⟩
  rw [eH] at l
  rintro rfl
  rw [(S'.own _ _ _ _ l).1] at kc; exact none_some kc
 ·refine S.freeE i x e fun a cv e1 e2 e3=>?_
  exact ⟨a,cv,e1,e2,fun v h d=>(e3 v h d).ext XK⟩
end
structure Mk (c:Cx) (C fI:Addr):Prop where
 hm:makesIn c.fr C = true
 hi:findIn c.fr (.ref C) "__init__" = some (some (.ref fI))
 hf:typeIn c.fr (.ref fI) = some (.type "function")
 hk:keepIn c.fr (.ref C) = true
noncomputable def newO (C:Addr) (nl:Nat) (m:AM AFlow) (g:Bool) (vs:List V):AM V:=fun σ =>
 (m ⟨(.obj g C (σ.sel g).length :: vs) ++ List.replicate (nl - (V.obj g C (σ.sel g).length :: vs).length) .undef,(σ.alloc g (.inst [])).tmp,(σ.alloc g (.inst [])).heap⟩).bind fun p=>p.1.out (some (.obj g C (σ.sel g).length,{ p.2 with loc:=σ.loc })) (fun _=>none) none
noncomputable def mNew (C:Addr) (nl:Nat) (m:AM AFlow) (g:Bool) (ms:List (AM V)):AM V:=do
 let vs ← mAll ms
 newO C nl m g vs
section
variable {c:Cx} {d:Nat} {env:Env}
theorem mAll_len:∀ (ms:List (AM V)) (σ:St) (r:List V × St),mAll ms σ = some r -> r.1.length = ms.length:=by
 intro ms
 induction ms with
 | nil=>intro σ r h; cases h; rfl
 | cons m ms ih =>
  intro σ r h
  revert h
  refine AM.bind_elim fun v σ1 _ h=>?_
  revert h
  refine AM.bind_elim fun vs σ2 h2 h=>?_
  cases h
  rw [List.length_cons,List.length_cons,← ih _ _ h2]
set_option tactic.hygienic true in
theorem call_new (G:Glo c) (ok:EnvOK env) {C fI:Addr} (mk:Mk c C fI) (f:Fn c fI) {nl:Nat} {m:AM AFlow} (h:∀ L,EnvOK (f.env L) -> RS c d (f.env L) (execs f.body (f.env L)) m) {g:Bool} {A:Around} (gA:GoodA A (d + 2)) {K F:Heap} {R:Adrs} {σ σ':St} {s:Shared} (S:Sim c env K F R σ s)
  {cvs:List Value} {vs:List V} {v:V} (hl:cvs.length + 1 = f.pn.length) (hv:VAll c F R cvs vs) (hn:newO C nl m g vs σ = some (v,σ')) {Q:Value -> Shared -> Prop} {E:Value -> Shared -> Prop} (q:∀ cv F' R' s',Ext K F R F' R' -> Sim c env K F' R' σ' s' -> VIn c F' R' cv v -> Q cv s') :
  wpAny (model c.prog c.w) A (call (.ref C) cvs) Q E s:=by
 obtain ⟨hh,gg,dd,t,os⟩:=s
 have X:=S.X G.X
 refine wpAny_call (make_core (makes_of X mk.hm) (looks_findIn X mk.hi) (fun self=>bind_fn X self mk.hf) (.inl rfl) ?_)
 refine hG9 fun P_ b_=>?_
 obtain ⟨R1,X1,S1,V1⟩:=S.alloc ok (g:=g) (q:=emptyDict) (o:=.inst []) rfl (fun h' R' e _=>⟨[],_,e,.nil,List.nodup_nil⟩)
 obtain ⟨F2,X2,e2,S2⟩:=S1.fresh (o:=instObj C hh.objs.size) (tk:=t) ok rfl
 have hz:(hh.push emptyDict).objs.size = hh.objs.size + 1:=Heap.size_push ..
 have e2':F2.get? (hh.objs.size + 1) = some (instObj C hh.objs.size):=by rw [← hz]; exact e2
 have hr:(R1.sel g)[(σ.sel g).length]? = some hh.objs.size:=by obtain ⟨b,q,k⟩:=V1.inv; cases q; exact k
 have V2:VIn c F2 R1 (.ref (hh.objs.size + 1)) (.obj g C (σ.sel g).length):=.obj e2' hr
 refine obind_elim hn fun p hm hn=>?_
 obtain ⟨f2,σ2⟩:=p
 cases f2 with
 | next =>
  refine some2E hn fun z0_ z1_=>?_
  subst z0_
  subst z1_
  have gA':GoodA (A.under (.builtin "type.__call__" ⟨.ref C :: cvs,[]⟩)) (d + 1):=by
   have h:(A.under (.builtin "type.__call__" ⟨.ref C :: cvs,[]⟩)).units = A.units + 1:=by kernel_rfl
   exact ⟨gA.1,dA gA.2.1,h ▸ dC gA.2.2⟩
  have eH:St.sel ⟨[],(σ.alloc g (.inst [])).tmp,(σ.alloc g (.inst [])).heap⟩ = (σ.alloc g (.inst [])).sel:=by funext b; cases b <;> rfl
  refine b_ ?_; clear b_ P_
  refine fn_core G f h gA' (eH ▸ S2.enter0 ok) (by rw [← hl]; rfl) (.cons V2 ((hv.ext X1).ext X2)) hm (v:=.none) (.inr ⟨rfl,rfl⟩) fun cv F3 R3 s3 X3 S3 V3=>?_
  obtain rfl:cv = .none:=V3.inv
  obtain ⟨X4,S4⟩:=S2.leave0 ok X3 S3
  have:(σ.alloc g (.inst [])).loc = σ.loc:=by cases g <;> rfl
  rw [this] at S4
  exact ⟨rfl,q _ F3 R3 s3 ((X1.trans X2).trans X4) S4 (V2.ext X4)⟩
 | _=>exact none_some hn
theorem rNew (G:Glo c) (ok:EnvOK env) {C fI:Addr} (mk:Mk c C fI) (f:Fn c fI) {nl:Nat} {m:AM AFlow} (h:∀ L,EnvOK (f.env L) -> RS c d (f.env L) (execs f.body (f.env L)) m) {g:Bool} {i:Nat} {x:Str} {p pos:Pos} {e:PySem.Expr} {es:List PySem.Expr} {me:AM V} {ms:List (AM V)}
  (hi:env.scope.names[i]? = some (x,.globalImplicit)) (hv:c.mg x = some (.ref C)) (hl:(me :: ms).length + 1 = f.pn.length) (h1:RX c (d + 2) env pos (e :: es) (me :: ms)) (he:starEach (e :: es) env = (false,eval e env) :: starEach es env:=by rfl) (hp:(backTo pos (starEach es env)).any (·.1) = false:=by rfl) :
  RE c (d + 2) env (eval (.Call (.Name x p) (e :: es) [] pos) env) (mNew C nl m g (me :: ms)):=by
 refine ⟨fun A gA K F R σ s S v σ' h'=>?_⟩
 revert h'
 refine AM.bind_elim fun vs σ1 e1 h'=>?_
 refine wpAny_Call_Name_kw (nameG G ok S hi hv ?_)
 show wpAny _ _ (callWith pos (.ref C) [] (backTo pos (starEach (e :: es) env)) []) _ _ _
 refine callWith_K (S.X G.X) mk.hk ?_ he hp
 refine Ref.go h1 gA S e1 fun cvs F1 R1 s1 X1 S1 V1=>⟨S1.X G.X,?_⟩
 refine call_new G ok mk f h gA S1 (by rw [← hl,V1.length,mAll_len _ _ _ e1]) V1 h' fun cv F2 R2 s2 X2 S2 V2=>⟨F2,R2,X1.trans X2,S2,V2⟩
end
section
variable {prog:Program} {w:World} {A:Around} {R:Result -> Shared -> Prop} {s:Shared}
noncomputable abbrev tstS (ifs:List PySem.Expr) (env:Env):Sem Bool:=forIn ifs true fun c r=>if r = true then do let ok ← isTrue c env (eval c env); pure (ForInStep.yield ok) else pure (ForInStep.yield r)
theorem compLoop_gen {elt target iter:PySem.Expr} {ifs:List PySem.Expr} {scope:Scope} {pos:Pos} {it acc:Value} {env:Env} (I:Nat -> Shared -> Prop)
  (turn:∀ n s,I n s -> wpAny (model prog w) A (pyNext it) (fun r s₁=>match r with
   | none=>R (.ok .next) s₁
   | some v=>wpAny (model prog w) A (letOwnedTupleGo target it v) (fun _ s₁'=>wpAny (model prog w) A (assign target env v) (fun _ s₂ =>
     wpAny (model prog w) A (tstS ifs env) (fun ok s₃ =>
      if ok = true then wpAny (model prog w) A (eval elt env) (fun x s₄ =>
       wpAny (model prog w) A (call (.builtin "list.append") [acc,x]) (fun _ s₅=>∃ m,m < n ∧ I m s₅) NoE s₄) NoE s₃
      else ∃ m,m < n ∧ I m s₃) NoE s₂) NoE s₁') NoE s₁) NoE s)
  (n:Nat) (h:I n s):codeAny (model prog w) A (.compLoop (.ListComp elt [⟨target,iter,ifs,0⟩] scope pos) 0 it acc env) R s:=by
 refine codeAny_loop rfl I (fun n s hI=>?_) n h
 show wpAny _ A ((compTurn (.ListComp elt [⟨target,iter,ifs,0⟩] scope pos) 0 it acc env).onRaise (fun x=>do noteFrame x env; theTreesLotGoes x)) _ _ s
 refine wpAny_noted ?_
 rw [compTurn_list]
 refine wpAny_bind (wpAny_standAt (wpAny_bind (wpAny_mono (turn n s hI) (fun r s₁ h₁=>?_) fun _ _ h'=>h'.elim)))
 cases r with
 | none=>exact wpAny_pure h₁
 | some v =>
  refine wpAny_bind (wpAny_mono h₁ (fun _ s₁' h₁'=>?_) fun _ _ h'=>h'.elim)
  refine wpAny_bind (wpAny_mono h₁' (fun _ s₂ h₂=>wpAny_bind (wpAny_mono h₂ (fun ok s₃ h₃=>?_) fun _ _ h'=>h'.elim)) fun _ _ h'=>h'.elim)
  cases ok with
  | false=>exact wpAny_pure ⟨rfl,h₃⟩
  | true =>
   exact wpAny_bind (wpAny_bind (wpAny_mono h₃ (fun x s₄ h₄=>wpAny_bind (wpAny_mono h₄ (fun _ s₅ h₅=>wpAny_pure (wpAny_pure ⟨rfl,h₅⟩)) fun _ _ h'=>h'.elim)) fun _ _ h'=>h'.elim))
end
noncomputable def clL (env:Env):List (Str × NameKind) -> List (Str × Addr) -> List (Str × Addr)
 | [],acc=>acc
 | (n,k) :: r,acc=>if k == .free then clL env r ((n,(env.cells.lookup n).getD 0) :: acc) else clL env r acc
theorem closCons {env:Env} {n:Str} {k:NameKind} {r:List (Str × NameKind)} {acc:List (Str × Addr)}:clL env ((n,k) :: r) acc = if (k == .free) = true then clL env r ((n,(env.cells.lookup n).getD 0) :: acc) else clL env r acc:=rfl
theorem clos_go {env:Env} (names:List (Str × NameKind)):∀ (acc:List (Str × Addr)),(∀ x,(x,NameKind.free) ∈ names -> (env.cells.lookup x).isSome = true) ->
  (forIn names acc fun p r=>(if (p.2 == NameKind.free) = true then do let a ← cellOf env p.1; pure (ForInStep.yield ((p.1,a) :: r)) else pure (ForInStep.yield r):Sem (ForInStep (List (Str × Addr))))) = (pure (clL env names acc):Sem _):=by
 induction names with
 | nil=>intro acc _; rfl
 | cons p r ih =>
  obtain ⟨n,k⟩:=p
  intro acc h
  rw [List.forIn_cons,closCons]
  cases hk:k == NameKind.free with
  | false =>
   simp -iota only [Bool.false_eq_true,if_false,hk]
   exact ih acc fun x hx=>h x (List.mem_cons_of_mem _ hx)
  | true =>
   have hk':k = .free:=beq_iff_eq.mp hk
   subst hk'
   obtain ⟨a,ha⟩:=Option.isSome_iff_exists.mp (h n List.mem_cons_self)
   simp -iota only [hk,if_true,cellOf,ha,Option.getD_some]
   exact ih _ fun x hx=>h x (List.mem_cons_of_mem _ hx)
theorem clos_is {scope:Scope} {env:Env} (h:∀ x,(x,NameKind.free) ∈ scope.names -> (env.cells.lookup x).isSome = true):closureFor scope env = pure (clL env scope.names []):=by
 unfold closureFor
 exact (congrArg (· >>= pure) (clos_go scope.names [] h)).trans rfl
theorem clL_mem {env:Env} {y:Str} {a:Addr} (names:List (Str × NameKind)):∀ (acc:List (Str × Addr)),(y,a) ∈ clL env names acc -> (y,a) ∈ acc ∨ ((y,NameKind.free) ∈ names ∧ a = (env.cells.lookup y).getD 0):=by
 induction names with
 | nil=>exact fun _ h=>.inl h
 | cons q r ih =>
  intro acc h
  obtain ⟨n,k⟩:=q
  rw [closCons] at h
  split at h
  ·rename_i hk
   have hk':k = .free:=beq_iff_eq.mp hk
   subst hk'
   rcases ih _ h with h | ⟨h,h2⟩
   ·rcases List.mem_cons.mp h with h | h
    ·cases h; exact .inr ⟨List.mem_cons_self,rfl⟩
    ·exact .inl h
   ·exact .inr ⟨List.mem_cons_of_mem _ h,h2⟩
  ·rcases ih _ h with h | ⟨h,h2⟩
   ·exact .inl h
   ·exact .inr ⟨List.mem_cons_of_mem _ h,h2⟩
theorem clL_has {env:Env} {y:Str} (names:List (Str × NameKind)):∀ (acc:List (Str × Addr)),((y,NameKind.free) ∈ names ∨ ∃ a,(y,a) ∈ acc) -> ∃ a,(y,a) ∈ clL env names acc:=by
 induction names with
 | nil=>exact fun _ h=>h.resolve_left List.not_mem_nil
 | cons q r ih =>
  intro acc h
  obtain ⟨n,k⟩:=q
  rw [closCons]
  split
  ·rename_i hk
   refine ih _ ?_
   rcases h with h | ⟨a,h⟩
   ·rcases List.mem_cons.mp h with h | h
    ·cases h; exact .inr ⟨_,List.mem_cons_self⟩
    ·exact .inl h
   ·exact .inr ⟨a,List.mem_cons_of_mem _ h⟩
  ·rename_i hk
   refine ih _ ?_
   rcases h with h | h
   ·rcases List.mem_cons.mp h with h | h
    ·cases h; exact absurd rfl hk
    ·exact .inl h
   ·exact .inr h
theorem lookup_has {α:Type} {y:Str} {l:List (Str × α)} {a:α} (h:(y,a) ∈ l):∃ b,l.lookup y = some b:=by
 induction l with
 | nil=>cases h
 | cons p r ih =>
  obtain ⟨n,k⟩:=p
  rw [List.lookup_cons]
  cases q:y == n with
  | true=>exact ⟨k,rfl⟩
  | false =>
   rcases List.mem_cons.mp h with h | h
   ·cases h; rw [beq_self_eq_true] at q; cases q
   ·exact ih h
theorem clL_pw {env:Env} (P:Str -> Addr -> Str -> Addr -> Prop) (names:List (Str × NameKind)):∀ (acc:List (Str × Addr)),(names.map (·.1)).Nodup -> acc.Pairwise (fun x y=>x.2 ≠ y.2) ->
  (∀ x y,(x,NameKind.free) ∈ names -> (y,NameKind.free) ∈ names -> x ≠ y -> (env.cells.lookup x).getD 0 ≠ (env.cells.lookup y).getD 0) -> (∀ x p,(x,NameKind.free) ∈ names -> p ∈ acc -> (env.cells.lookup x).getD 0 ≠ p.2) ->
  (clL env names acc).Pairwise (fun x y=>x.2 ≠ y.2):=by
 induction names with
 | nil=>exact fun _ _ h _ _=>h
 | cons q r ih =>
  intro acc nd h h1 h2
  obtain ⟨n,k⟩:=q
  rw [List.map_cons,List.nodup_cons] at nd
  rw [closCons]
  split
  ·rename_i hk
   have hk':k = .free:=beq_iff_eq.mp hk
   subst hk'
   refine ih _ nd.2 (List.pairwise_cons.mpr ⟨fun p hp=>h2 n p List.mem_cons_self hp,h⟩) (fun x y hx hy=>h1 x y (List.mem_cons_of_mem _ hx) (List.mem_cons_of_mem _ hy)) fun x p hx hp=>?_
   rcases List.mem_cons.mp hp with rfl | hp
   ·refine h1 x n (List.mem_cons_of_mem _ hx) List.mem_cons_self fun e=>nd.1 ?_
    rw [← e]; exact List.mem_map.mpr ⟨_,hx,rfl⟩
   ·exact h2 x p (List.mem_cons_of_mem _ hx) hp
  ·exact ih _ nd.2 h (fun x y hx hy=>h1 x y (List.mem_cons_of_mem _ hx) (List.mem_cons_of_mem _ hy)) fun x p hx hp=>h2 x p (List.mem_cons_of_mem _ hx) hp
structure Sub (env:Env) (scope:Scope) (fm:List (Option Nat)):Prop where
 kind:scope.kind = .function
 nocell:∀ y ∈ scope.names,y.2 ≠ .cell
 nd:(scope.names.map (·.1)).Nodup
 dbg:∀ x ∈ scope.names,(x.1 == ("__debug__" : Str)) = false ∧ (x.1 == ("__classdict__" : Str)) = false
 free:∀ (i:Nat) (x:Str),scope.names[i]? = some (x,.free) -> ∃ j,fm[i]? = some (some j) ∧ env.scope.names[j]? = some (x,.cell)
 loc:∀ (i:Nat) (x:Str),scope.names[i]? = some (x,.local) -> fm[i]? = some none
noncomputable def locIn (fm:List (Option Nat)) (loc:List V):List V:=fm.map fun o=>match o with
 | some j=>(loc[j]?).getD .undef
 | none=>.undef
noncomputable def inSub {α:Type} (fm:List (Option Nat)) (m:AM α):AM α:=fun σ=>(m { σ with loc:=locIn fm σ.loc }).map fun p=>(p.1,{ p.2 with loc:=σ.loc })
noncomputable def compM (mt:V -> AM Unit) (test:AM Bool) (elt:AM V):List V -> AM (List V)
 | []=>pure []
 | v :: vs=>do
  mt v
  let b ← test
  if b = true then do
   let x ← elt
   let r ← compM mt test elt vs
   pure (x :: r)
  else compM mt test elt vs
section
variable {c:Cx} {d:Nat} {env:Env} {K F:Heap} {R:Adrs} {σ:St} {s:Shared}
theorem relabel_names {scope:Scope} (ok:EnvOK env) {fm:List (Option Nat)} (sb:Sub env scope fm):(relabel scope env).names = scope.names.map fun (n,k)=>if k == .free then (n,.cell) else (n,k):=by
 unfold relabel
 refine List.map_congr_left fun x hx=>?_
 obtain ⟨n,k⟩:=x
 obtain ⟨i,hi⟩:=List.mem_iff_getElem?.mp hx
 cases k with
 | free =>
  obtain ⟨j,_,hj⟩:=sb.free i n hi
  have:=ok.kindOf hj
  simp [ok.kind,this]
 | _=>rfl
theorem relabel_at {scope:Scope} (ok:EnvOK env) {fm:List (Option Nat)} (sb:Sub env scope fm) {i:Nat} {x:Str} {k:NameKind} (h:(relabel scope env).names[i]? = some (x,k)):(k = .cell ∧ scope.names[i]? = some (x,.free)) ∨ (k ≠ .cell ∧ k ≠ .free ∧ scope.names[i]? = some (x,k)):=by
 rw [relabel_names ok sb,List.getElem?_map] at h
 refine hG9 fun P_ b_=>?_
 refine map_elim h fun p hp h=>?_
 obtain ⟨n,k'⟩:=p
 have hc:=sb.nocell _ (List.mem_of_getElem? hp)
 cases k' with
 | free=>refine b_ ?_; clear b_ P_; cases h; exact .inl ⟨rfl,hp⟩
 | cell=>exact absurd rfl hc
 | _=>refine b_ ?_; clear b_ P_; cases h; exact .inr ⟨(by intro e; cases e),(by intro e; cases e),hp⟩
theorem sub_cells (S:Sim c env K F R σ s) {scope:Scope} {fm:List (Option Nat)} (sb:Sub env scope fm) {x:Str} (h:(x,NameKind.free) ∈ scope.names):∃ a,env.cells.lookup x = some a:=by
 obtain ⟨i,hi⟩:=List.mem_iff_getElem?.mp h
 obtain ⟨j,_,hj⟩:=sb.free i x hi
 refine S.cellE j x hj fun a _ e _ _ _ _ _ _=>?_
 exact ⟨a,e⟩
theorem sub_lookup (S:Sim c env K F R σ s) {scope:Scope} {fm:List (Option Nat)} (sb:Sub env scope fm) {x:Str} {a:Addr} (h:(clL env scope.names []).lookup x = some a):env.cells.lookup x = some a ∧ (x,NameKind.free) ∈ scope.names:=by
 rcases clL_mem _ _ (mem_of_lookup h) with q | ⟨q,e⟩
 ·cases q
 ·obtain ⟨b,hb⟩:=sub_cells S sb q
  rw [hb] at e
  exact ⟨by rw [hb,e]; rfl,q⟩
theorem sub_has (S:Sim c env K F R σ s) {scope:Scope} {fm:List (Option Nat)} (sb:Sub env scope fm) {x:Str} {a:Addr} (hm:(x,NameKind.free) ∈ scope.names) (h:env.cells.lookup x = some a):(clL env scope.names []).lookup x = some a:=by
 obtain ⟨b,hb⟩:=clL_has (env:=env) scope.names [] (.inl hm)
 obtain ⟨b',hb'⟩:=lookup_has hb
 have:=(sub_lookup S sb hb').1
 obtain rfl:=Option.some.inj (h.symm.trans this)
 exact hb'
theorem sub_ok (S:Sim c env K F R σ s) (ok:EnvOK env) {scope:Scope} {fm:List (Option Nat)} (sb:Sub env scope fm) (C:Addr):EnvOK (compEnvC scope (clL env scope.names []) C env):=by
 have hn:=relabel_names ok sb
 refine ⟨sb.kind,ok.glo,ok.blt,?_,fun x hx=>?_,?_,fun x a e=>?_⟩
 ·show ((relabel scope env).names.map (·.1)).Nodup
  rw [hn,List.map_map]
  refine (congrArg List.Nodup (List.map_congr_left fun x _=>?_)).mpr sb.nd
  obtain ⟨n,k⟩:=x
  show (if _ then _ else _:Str × NameKind).1 = _
  split <;> rfl
 ·have hx:x ∈ (relabel scope env).names:=hx
  rw [hn] at hx
  obtain ⟨p,hp,rfl⟩:=List.mem_map.mp hx
  have:=sb.dbg p hp
  obtain ⟨n,k⟩:=p
  show ((if _ then _ else _:Str × NameKind).1 == _) = _ ∧ ((if _ then _ else _:Str × NameKind).1 == _) = _
  split <;> exact this
 ·refine clL_pw (fun _ _ _ _=>True) _ _ sb.nd .nil (fun x y hx hy hxy e=>?_) fun _ p _ hp=>by cases hp
  obtain ⟨a,ha⟩:=sub_cells S sb hx
  obtain ⟨b,hb⟩:=sub_cells S sb hy
  rw [ha,hb] at e
  cases e
  exact hxy (name_of_addr ok.apart (mem_of_lookup ha) (mem_of_lookup hb))
 ·obtain ⟨_,hm⟩:=sub_lookup S sb e
  obtain ⟨i,hi⟩:=List.mem_iff_getElem?.mp hm
  refine ⟨i,.inl ?_⟩
  show (relabel scope env).names[i]? = _
  rw [hn,List.getElem?_map,hi]
  rfl
theorem Sim.sub (S:Sim c env K F R σ s) (ok:EnvOK env) {scope:Scope} {fm:List (Option Nat)} (sb:Sub env scope fm) {h':Heap} {C:Addr} {tk:Nat} {m:Str -> Option Value} (hC:s.heap.objs.size ≤ C) (hk:s.heap.StaysIn h') (hm:h'.Ns C m) :
  Sim c (compEnvC scope (clL env scope.names []) C env) (keepK env K F R σ false s) F R { σ with loc:=locIn fm σ.loc } { s with heap:=h',toks:=tk }:=by
 have O:=S.outNew ok hC
 have eH:St.sel { σ with loc:=locIn fm σ.loc } = σ.sel:=by funext b; cases b <;> rfl
 have at_:∀ (i:Nat) (v:V),(locIn fm σ.loc)[i]? = some v -> v ≠ .undef -> ∃ j,fm[i]? = some (some j) ∧ σ.loc[j]? = some v:=fun i v e hd=>by
  unfold locIn at e
  rw [List.getElem?_map] at e
  refine map_elim e fun o ho e=>?_
  cases o with
  | none=>exact absurd e.symm hd
  | some j =>
   refine ⟨j,ho,?_⟩
   cases q:σ.loc[j]? with
   | none=>dsimp only at e; rw [q] at e; exact absurd e.symm hd
   | some u=>dsimp only at e; rw [q] at e; cases e; rfl
 refine ⟨?_,?_,O.f,fun g n a o l=>?_,⟨m,hm,fun i x v e e' hd=>?_⟩,fun i x e=>?_,fun i x e=>?_⟩
 ·rw [eH]; exact (S.enter0 ok).up hk
 ·cases q:(keepK env K F R σ false s).get? C with
  | none=>exact q
  | some o=>exact absurd (Heap.lt_size (keepK_of S q).1) (Nat.not_lt.mpr hC)
 ·rw [eH] at l; exact O.l _ _ _ _ l
 ·have e:(relabel scope env).names[i]? = some (x,.local):=e
  refine hG9 fun P_ b_=>?_
  rcases relabel_at ok sb e with ⟨q,_⟩ | ⟨_,_,h⟩
  ·cases q
  ·obtain ⟨j,hj,_⟩:=at_ i v e' hd
   rw [sb.loc i x h] at hj; cases hj
 ·have e:(relabel scope env).names[i]? = some (x,.cell):=e
  refine hG9 fun P_ b_=>?_
  rcases relabel_at ok sb e with ⟨_,h⟩ | ⟨q,_⟩
  ·obtain ⟨j,hj,hn⟩:=sb.free i x h
   refine S.cellE j x hn fun a q e1 z3_ e3 e4 e5 e6 e7=>?_
   obtain ⟨o,e2,e2'⟩:=z3_
   refine b_ ?_; clear b_ P_
   refine ⟨a,q,sub_has S sb (List.mem_of_getElem? h) e1,⟨o,hk a o e2,e2'⟩,fun z=>absurd rfl z,e4,fun z=>?_,fun g n b o l=>?_,fun v e' hd=>?_⟩
   ·have:=Heap.lt_size e2
    rw [z] at this
    exact absurd this (Nat.not_lt.mpr hC)
   ·rw [eH] at l; exact e6 _ _ _ _ l
   ·refine hG9 fun P_ b_=>?_
    obtain ⟨j',hj',hv⟩:=at_ i v e' hd
    rw [hj] at hj'; cases hj'
    refine b_ ?_; clear b_ P_
    exact e7 v hv hd
  ·exact absurd rfl q
 ·have e:(relabel scope env).names[i]? = some (x,.free):=e
  refine hG9 fun P_ b_=>?_
  rcases relabel_at ok sb e with ⟨q,_⟩ | ⟨_,q,_⟩
  ·cases q
  ·exact absurd rfl q
end
section
variable {c:Cx} {d:Nat} {env:Env} {K F:Heap} {R:Adrs} {σ:St} {s:Shared}
theorem guardK_no {wr:List Addr} (hK:K.StaysIn s.heap) {a:Addr} (h1:K.get? a = none) (h2:a ∉ wr):(guardK K wr s).get? a = none:=by
 cases q:(guardK K wr s).get? a with
 | none=>rfl
 | some o =>
  rcases (guardK_of hK q).2 with e | e
  ·rw [h1] at e; exact none_some e
  ·exact absurd e h2
theorem Out.guard {wr:List Addr} {a:Addr} (O:Out env K F R σ a) (hK:K.StaysIn s.heap) (h:a ∉ wr):Out env (guardK K wr s) F R σ a:=⟨guardK_no hK O.k h,O.f,O.l,O.L,O.c⟩
theorem Out.less {K':Heap} {a:Addr} (O:Out env K' F R σ a) (hK:K.StaysIn K'):Out env K F R σ a:=by
 refine ⟨?_,O.f,O.l,O.L,O.c⟩
 cases q:K.get? a with
 | none=>rfl
 | some o=>have:=hK a o q; rw [O.k] at this; exact none_some this
theorem guard_one (S:Sim c env K F R σ s) {D:Addr} {o:Obj} (hD:Out env K F R σ D) (g:s.heap.get? D = some o) {F':Heap} {R':Adrs} {σ':St} {s':Shared} (X:Ext (guardK K [D] s) F R F' R') (S':Sim c env (guardK K [D] s) F' R' σ' s') :
  Ext K F R F' R' ∧ Sim c env K F' R' σ' s' ∧ Out env K F' R' σ' D ∧ s'.heap.get? D = some o:=by
 have hK:=S.st.hK
 have g':(guardK K [D] s).get? D = some o:=(guardK_w (List.mem_singleton.mpr rfl)).trans g
 refine ⟨⟨X.f,X.g,X.t,fun a o e=>X.k a o (guardK_K hK a o e)⟩,S'.less S.st.base (guardK_K hK) S.frees,⟨hD.k,(X.k D o g').trans hD.f,fun g2 n b o' l z=>?_,fun z=>?_,hD.c⟩,S'.st.hK D o g'⟩
 ·subst z
  rw [(S'.st.own _ _ _ _ l).1] at g'; cases g'
 ·subst z
  rw [S'.lK] at g'; cases g'
theorem rtstNil:RB c d env (tstS [] env) (pure true):=by
 refine ⟨fun A gA K F R σ s S v σ' h=>?_⟩
 refine some2E h fun z0_ z1_=>?_
 subst z0_
 subst z1_
 exact wpAny_tests_nil ⟨F,R,Ext.refl ..,S,rfl⟩
theorem rtstOne {e:PySem.Expr} {m:AM Bool} (h:RT c d env e m):RB c d env (tstS [e] env) m:=by
 refine ⟨fun A gA K F R σ s S v σ' h'=>?_⟩
 exact wpAny_tests_one ((h _ rfl).run A gA K F R σ s S v σ' h')
theorem compM_cons {mt:V -> AM Unit} {test:AM Bool} {elt:AM V} {v:V} {vs:List V} {σ:St} {r:List V × St} (h:compM mt test elt (v :: vs) σ = some r):Ex3 fun σ1 b σ2=>And3 (mt v σ = some ((),σ1)) (test σ1 = some (b,σ2)) ((b = false ∧ compM mt test elt vs σ2 = some r) ∨ (b = true ∧ Ex3 fun x σ3 l=>And3 (elt σ2 = some (x,σ3)) (compM mt test elt vs σ3 = some (l,r.2)) (r.1 = x :: l))):=by
 refine hG9 fun P_ b_=>?_
 revert h
 refine AM.bind_elim fun u σ1 e1 h=>?_
 revert h
 refine AM.bind_elim fun b σ2 e2 h=>?_
 refine b_ ?_; clear b_ P_
 refine ⟨σ1,b,σ2,e1,e2,?_⟩
 refine hG9 fun P_ b_=>?_
 cases b with
 | false=>refine b_ ?_; clear b_ P_; exact .inl ⟨rfl,h⟩
 | true =>
  revert h
  refine AM.bind_elim fun x σ3 e3 h=>?_
  revert h
  refine AM.bind_elim fun l σ4 e4 h=>?_
  cases h
  refine b_ ?_; clear b_ P_
  exact .inr ⟨rfl,x,σ3,l,e3,e4,rfl⟩
noncomputable def LoopCode (c:Cx) (A:Around) (code:Code) (elt target:PySem.Expr) (ifs:List PySem.Expr) (it acc:Value) (env:Env):Prop:=∀ (P:Result -> Shared -> Prop) (I:Nat -> Shared -> Prop),
  (∀ n s,I n s -> wpAny (model c.prog c.w) A (pyNext it) (fun r s₁=>match r with
   | none=>P (.ok .next) s₁
   | some v=>wpAny (model c.prog c.w) A (letOwnedTupleGo target it v) (fun _ s₁'=>wpAny (model c.prog c.w) A (assign target env v) (fun _ s₂ =>
     wpAny (model c.prog c.w) A (tstS ifs env) (fun ok s₃ =>
      if ok = true then wpAny (model c.prog c.w) A (eval elt env) (fun x s₄ =>
       wpAny (model c.prog c.w) A (call (.builtin "list.append") [acc,x]) (fun _ s₅=>∃ m,m < n ∧ I m s₅) NoE s₄) NoE s₃
      else ∃ m,m < n ∧ I m s₃) NoE s₂) NoE s₁') NoE s₁) NoE s) -> ∀ n s,I n s -> codeAny (model c.prog c.w) A code P s
theorem loopCode1 {A:Around} {elt target iter:PySem.Expr} {ifs:List PySem.Expr} {scope:Scope} {pos:Pos} {it acc:Value}:LoopCode c A (.compLoop (.ListComp elt [⟨target,iter,ifs,0⟩] scope pos) 0 it acc env) elt target ifs it acc env:=fun _ I turn n _ h=>compLoop_gen I turn n h
noncomputable abbrev CompInv (c:Cx) (env:Env) (M:List V -> AM (List V)) (wr:List Addr) (It:Nat -> Heap -> Prop) (vs:List V) (F₀:Heap) (R₀:Adrs) (D:Addr) (K:Heap) (σ':St) (all:List V) (n:Nat) (s1:Shared):Prop :=
 Ex8 fun i F1 R1 σ1 done rest cvs k=>And11 (n = vs.length - i) (i ≤ vs.length) (Ext K F₀ R₀ F1 R1) (Sim c env K F1 R1 σ1 s1) (∀ a ∈ wr,Out env K F1 R1 σ1 a) (Out env K F1 R1 σ1 D) (It i s1.heap) (s1.heap.get? D = some (seqO "list" cvs k)) (VAll c F1 R1 cvs done) (M (vs.drop i) σ1 = some (rest,σ')) (all = done ++ rest)
theorem comp_core (ok:EnvOK env) {elt target:PySem.Expr} {ifs:List PySem.Expr} {code:Code} {mt:V -> AM Unit} {test:AM Bool} {me:AM V} (ht:Tar c d env target mt) (hts:RB c d env (tstS ifs env) test) (he:RE c d env (eval elt env) me)
  {A:Around} (gA:GoodA A d) {I:Addr} {wr fp:List Addr} {It:Nat -> Heap -> Prop} {vs:List V} {F₀:Heap} {R₀:Adrs} (T:Turns c target I wr fp It vs F₀ R₀) {D:Addr} {K:Heap} {σ':St} {P:Result -> Shared -> Prop} {all done₀ rest₀:List V} {cvs₀:List Value} (hcode:LoopCode c A code elt target ifs (.ref I) (.ref D) env) (hlen:all.length < lid)
  (hP:∀ cvs n F' R' s',Ext K F₀ R₀ F' R' -> Sim c env K F' R' σ' s' -> s'.heap.get? D = some (seqO "list" cvs n) -> VAll c F' R' cvs all -> Out env K F' R' σ' D -> P (.ok .next) s')
  {F:Heap} {R:Adrs} {σ:St} {s:Shared} (X:Ext K F₀ R₀ F R) (S:Sim c env K F R σ s) (hw:∀ a ∈ wr,Out env K F R σ a) (hDO:Out env K F R σ D) (hDw:D ∉ wr) (hDf:D ∉ fp) (hi:It 0 s.heap) {n₀:Nat} (hD:s.heap.get? D = some (seqO "list" cvs₀ n₀)) (hD2:VAll c F R cvs₀ done₀)
  (h:compM mt test me vs σ = some (rest₀,σ')) (hall₀:all = done₀ ++ rest₀):codeAny (model c.prog c.w) A code P s:=by
 refine hcode P (CompInv c env (compM mt test me) wr It vs F₀ R₀ D K σ' all) ?_
  vs.length s ⟨0,F,R,σ,done₀,rest₀,cvs₀,n₀,rfl,Nat.zero_le _,X,S,hw,hDO,hi,hD,hD2,h,hall₀⟩
 intro n s1 h0_
 refine hG9 fun P_ b_=>?_
 obtain ⟨i,F1,R1,σ1,done,rest,cvs,k,rfl,hle,X1,S1,hw1,hD1,hi1,gD,gV,h1,hall⟩:=h0_
 have hK1:=S1.st.hK
 have G1:=S1.guard (wr:=[D]) fun a ha=>by rw [List.mem_singleton.mp ha]; exact hD1
 have hw1':∀ a ∈ wr,Out env (guardK K [D] s1) F1 R1 σ1 a:=fun a ha=>(hw1 a ha).guard hK1 fun q=>hDw (List.mem_singleton.mp q ▸ ha)
 rcases Nat.lt_or_ge i vs.length with hlt | hge
 ·have hv:vs[i]? = some vs[i]:=List.getElem?_eq_getElem hlt
  rw [List.drop_eq_getElem_cons hlt] at h1
  obtain ⟨σ2,b,σ3,e1,e2,e3⟩:=compM_cons h1
  refine b_ ?_; clear b_ P_
  refine T.go gA.1 ok ⟨K,X1⟩ G1 hw1' hi1 hv fun cv s2 st=>st fun _ F3 s3 X3 S3 hw3 hi3 V3=>?_
  refine hG9 fun P_ b_=>?_
  have G:=S3.guard hw3
  refine b_ ?_; clear b_ P_
  refine ht.go gA G V3 e1 fun _ F4 R4 s4 X4 S4=>?_
  refine hG9 fun P_ b_=>?_
  refine b_ ?_; clear b_ P_
  refine hts.go gA S4 e2 fun b' F5 R5 s5 X5 S5 hb=>?_
  refine hG9 fun P_ b_=>?_
  subst hb
  have fin:∀ {F6 R6 σ6 s6},Ext (guardK (guardK K [D] s1) wr s3) F5 R5 F6 R6 -> Sim c env (guardK (guardK K [D] s1) wr s3) F6 R6 σ6 s6 ->
    Ext K F₀ R₀ F6 R6 ∧ Ext K F1 R1 F6 R6 ∧ Sim c env K F6 R6 σ6 s6 ∧ (∀ a ∈ wr,Out env K F6 R6 σ6 a) ∧ Out env K F6 R6 σ6 D ∧ It (i + 1) s6.heap ∧ s6.heap.get? D = some (seqO "list" cvs k):=by
   intro F6 R6 σ6 s6 X6 S6
   obtain ⟨X7,S7,hw7,hi7⟩:=guard_back T S3 hw3 (fun a o e=>X3.f a o (X1.f a o e)) hi3 ((X4.trans X5).trans X6) S6
   obtain ⟨X8,S8,hD8,gD8⟩:=guard_one S1 hD1 gD (X3.trans X7) S7
   exact ⟨X1.trans X8,X8,S8,fun a ha=>(hw7 a ha).less (guardK_K hK1),hD8,hi7,gD8⟩
  rcases e3 with ⟨rfl,e⟩ | ⟨rfl,x,σ4,l,e4,e5,e6⟩
  ·refine b_ ?_; clear b_ P_
   rw [if_neg (by simp)]
   refine hG9 fun P_ b_=>?_
   obtain ⟨Y1,Y2,Y3,Y4,Y5,Y6,Y7⟩:=fin (Ext.refl ..) S5
   refine b_ ?_; clear b_ P_
   exact ⟨vs.length - (i + 1),by exact uD ‹_›,i + 1,F5,R5,σ3,done,rest,cvs,k,rfl,hlt,Y1,Y3,Y4,Y5,Y6,Y7,gV.ext Y2,e,hall⟩
  ·refine b_ ?_; clear b_ P_
   rw [if_pos rfl]
   refine he.go gA S5 e4 fun cx F6 R6 s6 X6 S6 V6=>?_
   refine hG9 fun P_ b_=>?_
   obtain ⟨Y1,Y2,Y3,Y4,Y5,Y6,Y7⟩:=fin X6 S6
   have gV6:=gV.ext Y2
   have hsz:cvs.length ≤ sizeLine:=by
    rw [gV.length]
    refine Nat.le_trans ?_ (Nat.le_trans (Nat.le_of_lt hlen) lid_line)
    rw [hall,List.length_append]; (exact Nat.le_add_right _ _)
   refine b_ ?_; clear b_ P_
   refine call_meets PySem.F.slot_list_append ⟨_,Y7,rfl⟩ PySem.F.entry_list_append (PySem.F.args_list_append_2 _ _) (AutoListH.list_append_list_val_0 D cvs.toArray k cx (by rw [List.size_toArray]; exact hsz)) ⟨Y7,?_⟩
   refine hG9 fun P_ b_=>?_
   obtain ⟨k',hk'⟩:=mapSeq_at "list" cvs k (·.push cx) (cvs ++ [cx]) (by simp)
   have g3:(s6.heap.update D (Obj.mapSeq (·.push cx))).get? D = some (seqO "list" (cvs ++ [cx]) k'):=by rw [Heap.get?_update_self _ Y7 (by rw [hk']; rfl),hk']
   have sb:Heap.SameBut D s6.heap (s6.heap.update D (Obj.mapSeq (·.push cx))):=Heap.SameBut.update ..
   have S7:=Y3.buts (tk:=s6.toks) ok (wr:=[D]) (fun a ha=>by rw [List.mem_singleton.mp ha]; exact Y5) (fun b o hb e=>sb.extBut b o (fun q=>hb (List.mem_singleton.mpr q)) e)
   refine b_ ?_; clear b_ P_
   refine ⟨vs.length - (i + 1),by exact uD ‹_›,i + 1,F6,R6,σ4,done ++ [x],l,cvs ++ [cx],k',rfl,hlt,Y1,S7,Y4,Y5,T.frame _ _ _ Y6 fun b hb o e=>sb.extBut b o (fun q=>hDf (q ▸ hb)) e,g3,gV6.append (.one V6),e5,?_⟩
   have e6:rest = x :: l:=e6
   rw [hall,e6]; simp
 ·have he:i = vs.length:=Nat.le_antisymm hle hge
  subst he
  rw [List.drop_length] at h1
  refine some2E h1 fun z0_ z1_=>?_
  subst z0_
  subst z1_
  refine b_ ?_; clear b_ P_
  refine T.fin gA.1 ok ⟨K,X1⟩ G1 hw1' hi1 fun s2 S2=>?_
  refine hG9 fun P_ b_=>?_
  obtain ⟨X8,S8,hD8,gD8⟩:=guard_one S1 hD1 gD (Ext.refl ..) S2
  rw [List.append_nil] at hall
  subst hall
  refine b_ ?_; clear b_ P_
  exact hP cvs k F1 R1 s2 X1 S8 gD8 gV hD8
end
section
variable {c:Cx} {d:Nat} {env:Env} {K F:Heap} {R:Adrs} {σ:St} {s:Shared}
theorem Out.sub (S:Sim c env K F R σ s) (ok:EnvOK env) {scope:Scope} {fm:List (Option Nat)} (sb:Sub env scope fm) {C a:Addr} (O:Out env K F R σ a) (h:a ≠ C) (l:List V) :
  Out (compEnvC scope (clL env scope.names []) C env) (keepK env K F R σ false s) F R { σ with loc:=l } a:=by
 have eH:St.sel { σ with loc:=l } = σ.sel:=by funext b; cases b <;> rfl
 refine ⟨keepOnly_no (Bool.eq_false_iff.mpr fun q=>?_),O.f,fun g n b o k=>by rw [eH] at k; exact O.l g n b o k,h,fun x e=>O.c x (sub_lookup S sb e).1⟩
 rcases prot_iff.mp q with ⟨o,e⟩ | ⟨e | ⟨x,e⟩ | ⟨e,_⟩,_⟩
 ·rw [O.k] at e; exact none_some e
 ·exact O.L e
 ·exact O.c x e
 ·cases e
set_option tactic.hygienic true in
theorem comp_block (ok:EnvOK env) {elt target iter:PySem.Expr} {ifs:List PySem.Expr} {scope:Scope} {pos:Pos} {fm:List (Option Nat)} (sb:Sub env scope fm) {mt:V -> AM Unit} {test:AM Bool} {me:AM V}
  (ht:∀ cl C,EnvOK (compEnvC scope cl C env) -> Tar c d (compEnvC scope cl C env) target mt) (hts:∀ cl C,EnvOK (compEnvC scope cl C env) -> RB c d (compEnvC scope cl C env) (tstS ifs (compEnvC scope cl C env)) test)
  (he:∀ cl C,EnvOK (compEnvC scope cl C env) -> RE c d (compEnvC scope cl C env) (eval elt (compEnvC scope cl C env)) me) {A:Around} (gA:GoodA A d) {I:Addr} {wr fp:List Addr} {It:Nat -> Heap -> Prop} {vs:List V} (T:Turns c target I wr fp It vs F R)
  (S:Sim c env K F R σ s) (hw:∀ a ∈ wr,Out env K F R σ a) (hi:It 0 s.heap) {all:List V} {σ':St} (hlen:all.length < lid) (h:inSub fm (compM mt test me vs) σ = some (all,σ')) {RR:Value -> Addr -> Result -> Shared -> Prop} {E:Value -> Shared -> Prop}
  (hRR:∀ D C cvs n F' R' s' m,Ext K F R F' R' -> Sim c env K F' R' σ' s' -> s'.heap.get? D = some (seqO "list" cvs n) -> VAll c F' R' cvs all -> Out env K F' R' σ' D -> Out env K F' R' σ' C -> D ≠ C -> s'.heap.Ns C m -> RR (.ref D) C (.ok .next) s') :
  wpAny (model c.prog c.w) A (newList []) (fun acc s₃=>wpAny (model c.prog c.w) A (newFunctionEnv scope env.globals (clL env scope.names []) [] env.qual none .none (some env)) (fun cenv s₄ =>
   codeAny (model c.prog c.w) A (.compStart (.ListComp elt [⟨target,iter,ifs,0⟩] scope pos) 0 (.ref I) acc { cenv with scope:=relabel scope env }) (RR acc cenv.locals) s₄) E s₃) E s:=by
 refine wpAny_newObj_type (wpAny_newFunctionEnv sb.nocell (by intro y hy; simp at hy) (fun h₁ hns₁ hsb₁=>?_) sb.kind)
 dsimp only at hns₁ hsb₁ ⊢
 generalize hH2:s.heap.push { cls:=.type "list",dict:=none,data:=.seq ([]:List Value).toArray } = H2 at hns₁ hsb₁ ⊢
 have hC:H2.objs.size = s.heap.objs.size + 1:=by rw [← hH2,Heap.size_push]
 have hDC:s.heap.objs.size ≠ H2.objs.size:=by rw [hC]; exact Nat.ne_of_lt (Nat.lt_succ_self _)
 have hCle:s.heap.objs.size ≤ H2.objs.size:=by rw [hC]; exact Nat.le_succ _
 have below:∀ b,b < s.heap.objs.size -> b ≠ H2.objs.size ∧ b ≠ s.heap.objs.size:=fun b hb=>⟨by rw [hC]; exact Nat.ne_of_lt (Nat.lt_succ_of_lt hb),Nat.ne_of_lt hb⟩
 have old:s.heap.StaysIn h₁:=fun b o e=>hsb₁.extBut b o (below b (Heap.lt_size e)).1 (Heap.get?_push_of_some _ (hH2 ▸ Heap.get?_push_of_some _ e))
 have hacc:h₁.get? s.heap.objs.size = some (seqO "list" [] 0):=hsb₁.extBut _ _ hDC (Heap.get?_push_of_some _ (hH2 ▸ Heap.get?_push_size _ rfl))
 have OD:=S.outNew ok (Nat.le_refl _)
 have OC:=S.outNew ok hCle
 refine map_elim h fun p hm h=>?_
 obtain ⟨all',σc⟩:=p
 refine hG9 fun P_ b_=>?_
 obtain ⟨rfl,rfl⟩:=Prod.mk.inj h
 ·skip
  have okC:EnvOK (compEnvC scope (clL env scope.names []) H2.objs.size env):=sub_ok S ok sb _
  have SC:=S.sub (tk:=s.toks + ([]:List (Str × Value)).length) ok sb hCle old hns₁
  have hlow:∀ a ∈ wr,a < s.heap.objs.size:=fun a ha=>(by obtain ⟨_,e⟩:=T.here 0 _ hi a ha; exact Heap.lt_size e)
  have hDw:s.heap.objs.size ∉ wr:=fun q=>Nat.lt_irrefl _ (hlow _ q)
  have hDf:s.heap.objs.size ∉ fp:=fun q=>by
   rcases T.foot _ q with q | ⟨o,q⟩
   ·exact hDw q
   ·exact Nat.lt_irrefl _ (Heap.lt_size (S.st.hF _ _ q))
  have hi₁:It 0 h₁:=T.frame _ _ _ hi fun b _ o e=>old b o e
  have loop:∀ s₃:Shared,s₃ = { s with heap:=h₁,toks:=s.toks + ([]:List (Str × Value)).length } ->
    codeAny (model c.prog c.w) A (.compLoop (.ListComp elt [⟨target,iter,ifs,0⟩] scope pos) 0 (.ref I) (.ref s.heap.objs.size) (compEnvC scope (clL env scope.names []) H2.objs.size env)) (RR (.ref s.heap.objs.size) H2.objs.size) s₃:=by
   rintro s₃ rfl
   refine comp_core okC (ht _ _ okC) (hts _ _ okC) (he _ _ okC) gA T loopCode1 hlen (fun cvs n F' R' s' X' S' g' v' O'=>?_) (Ext.refl ..) SC (fun a ha=>(hw a ha).sub S ok sb (below a (hlow a ha)).1 _) (OD.sub S ok sb hDC _) hDw hDf hi₁ hacc .nil hm rfl
   obtain ⟨X2,S2⟩:=S.leave0 ok X' S'.st
   have eH:St.sel { σc with loc:=σ.loc } = σc.sel:=by funext b; cases b <;> rfl
   obtain ⟨m',hm',_⟩:=S'.ns
   exact hRR _ _ cvs n F' R' s' m' X2 S2 g' v' ⟨OD.k,O'.f,fun g n b o k=>by rw [eH] at k; exact O'.l g n b o k,OD.L,OD.c⟩ ⟨OC.k,S'.lF,fun g n b o k=>by rw [eH] at k; exact S'.lR g n b o k,OC.L,OC.c⟩ hDC hm'
  refine b_ ?_; clear b_ P_
  exact codeAny_compStart_list (loop _ rfl) (T.self A gA.1 0 _ _ _ hi₁ (loop _ rfl))
noncomputable def mOut (k:St -> Option Bool) (vs:List V):AM V:=fun σ=>match k σ with
 | none=>some (.lst vs,σ)
 | some g=>if g = true -> cleanL vs = true then some (.ref g (σ.sel g).length,σ.alloc g (.list vs)) else none
theorem VAll.fit {g:Bool} {cvs:List Value} {vs:List V} (h:VAll c F R cvs vs) (k:g = true -> cleanL vs = true):VAll c F (cond g R.glob R) cvs vs:=by
 cases g with
 | false=>exact h
 | true=>exact h.glob (k rfl)
set_option tactic.hygienic true in
theorem out_list (S:Sim c env K F R σ s) {D:Addr} (O:Out env K F R σ D) {cvs:List Value} {n:Nat} {vs:List V} (gD:s.heap.get? D = some (seqO "list" cvs n)) (V1:VAll c F R cvs vs) {k:St -> Option Bool} {v:V} {σ':St} (h:mOut k vs σ = some (v,σ')) :
  Ex2 fun F' R'=>And3 (Ext K F R F' R') (Sim c env K F' R' σ' s) (VIn c F' R' (.ref D) v):=by
 unfold mOut at h
 split at h
 ·cases h
  obtain ⟨F',X,y,S',_⟩:=S.freeze (fun a=>a == D) fun a ha=>by
   have ha:a = D:=by simpa using ha
   subst ha
   exact ⟨O.k,fun g n o l=>O.l _ _ _ _ l rfl,O.L,O.c⟩
  exact ⟨F',R,X,S',.lst ((y D (by simp)).trans gD) (V1.ext X)⟩
 ·rename_i g hk
  refine some_ifE h fun hc h=>?_
  obtain ⟨rfl,rfl⟩:=Prod.mk.inj h
  have X:=Ext.add K F R g D
  obtain ⟨S',h'⟩:=S.add (g:=g) (a:=D) (o:=.list vs) O.k O.f O.l O.L O.c ⟨cvs,n,gD,by
   cases g with
   | false=>exact V1.ext X
   | true=>exact (V1.glob (hc rfl)).ext X.globbed⟩
  exact ⟨F,R.add g D,X,S',.ref h'⟩
noncomputable def mComp (fm:List (Option Nat)) (mi:AM (List V)) (mt:V -> AM Unit) (test:AM Bool) (me:AM V):AM (List V):=do
 let vs ← mi
 let all ← inSub fm (compM mt test me vs)
 if all.length < lid then pure all else failure
theorem mComp_some {fm:List (Option Nat)} {mi:AM (List V)} {mt:V -> AM Unit} {test:AM Bool} {me:AM V} {r:List V × St} (h:mComp fm mi mt test me σ = some r):Ex2 fun vs σ1=>And3 (mi σ = some (vs,σ1)) (inSub fm (compM mt test me vs) σ1 = some r) (r.1.length < lid):=by
 refine hG9 fun P_ b_=>?_
 revert h
 refine AM.bind_elim fun vs σ1 e1 h=>?_
 revert h
 refine AM.bind_elim fun all σ2 e2 h=>?_
 replace h:=AM.ite_some h
 obtain ⟨hl,h⟩:=h
 refine some2E h fun z0_ z1_=>?_
 subst z0_
 subst z1_
 refine b_ ?_; clear b_ P_
 exact ⟨vs,σ1,e1,e2,hl⟩
structure CompOK (c:Cx) (d:Nat) (env:Env) (elt target iter:PySem.Expr) (ifs:List PySem.Expr) (scope:Scope) (fm:List (Option Nat)) (mi:AM (List V)) (mt:V -> AM Unit) (test:AM Bool) (me:AM V):Prop where
 sb:Sub env scope fm
 it:RI c d env target iter mi
 t:∀ cl C,EnvOK (compEnvC scope cl C env) -> Tar c d (compEnvC scope cl C env) target mt
 ts:∀ cl C,EnvOK (compEnvC scope cl C env) -> RB c d (compEnvC scope cl C env) (tstS ifs (compEnvC scope cl C env)) test
 e:∀ cl C,EnvOK (compEnvC scope cl C env) -> RE c d (compEnvC scope cl C env) (eval elt (compEnvC scope cl C env)) me
 hs:∀ x,foldedSetIterable iter env x = pure x
theorem comp_run (ok:EnvOK env) {elt target iter:PySem.Expr} {ifs:List PySem.Expr} {scope:Scope} {pos:Pos} {fm:List (Option Nat)} {mi:AM (List V)} {mt:V -> AM Unit} {test:AM Bool} {me:AM V} (k:CompOK c d env elt target iter ifs scope fm mi mt test me)
  {A:Around} (gA:GoodA A d) (S:Sim c env K F R σ s) {r:List V × St} (h:mComp fm mi mt test me σ = some r) {use:Option (Value -> Sem Unit)} {Q:Value -> Shared -> Prop}
  (q:∀ D C cvs n F' R' s' m,Ext K F R F' R' -> Sim c env K F' R' r.2 s' -> s'.heap.get? D = some (seqO "list" cvs n) -> VAll c F' R' cvs r.1 -> Out env K F' R' r.2 D -> Out env K F' R' r.2 C -> D ≠ C -> s'.heap.Ns C m -> compPost (model c.prog c.w) A NoE use Q (.ref D) C (.ok .next) s') :
  wpAny (model c.prog c.w) A (comprehension (.ListComp elt [⟨target,iter,ifs,0⟩] scope pos) scope env (firstIterPos [⟨target,iter,ifs,0⟩] pos) (newList []) false (eval iter env) use) Q NoE s:=by
 refine hG9 fun P_ b_=>?_
 obtain ⟨vs,σ1,e1,e2,hl⟩:=mComp_some h
 refine b_ ?_; clear b_ P_
 refine wpAny_comprehension_free rfl k.hs (clos_is fun x hx=>Option.isSome_iff_exists.mpr (sub_cells S k.sb hx)) k.sb.kind (fun x hx hx2=>?_) (wpAny_mono (k.it.run A gA K F R σ s S vs σ1 e1) (fun x s1 h1=>wpAny_mono h1 (fun it s2 q_=>?_) fun _ _ z=>z) fun _ _ z=>z)
 ·skip
  obtain ⟨i,hi⟩:=List.mem_iff_getElem?.mp hx
  obtain ⟨n,k'⟩:=x
  cases hx2
  exact lookup_nd k.sb.nd hi
 ·obtain ⟨F',R',I,wr,fp,It,X,S2,hit,hw,hi,T⟩:=q_
  subst hit
  exact comp_block ok k.sb k.t k.ts k.e gA T S2 hw hi hl e2 fun D C cvs n F3 R3 s3 m X3 S3 g3 v3 OD OC hDC hm=>q D C cvs n F3 R3 s3 m (X.trans X3) S3 g3 v3 OD OC hDC hm
noncomputable def mCompE (out:St -> Option Bool) (m:AM (List V)):AM V:=do let vs ← m; mOut out vs
theorem rComp (ok:EnvOK env) {elt target iter:PySem.Expr} {ifs:List PySem.Expr} {scope:Scope} {pos:Pos} {fm:List (Option Nat)} {mi:AM (List V)} {mt:V -> AM Unit} {test:AM Bool} {me:AM V} {out:St -> Option Bool} (k:CompOK c d env elt target iter ifs scope fm mi mt test me) :
  RE c d env (eval (.ListComp elt [⟨target,iter,ifs,0⟩] scope pos) env) (mCompE out (mComp fm mi mt test me)):=by
 refine ⟨fun A gA K F R σ s S v σ' h=>?_⟩
 revert h
 refine AM.bind_elim fun vs σ1 e1 h=>?_
 rw [eval_ListComp]
 refine comp_run ok k gA S e1 (use:=none) fun D C cvs n F' R' s' m X S' g' v' OD OC hDC hm=>⟨m,hm,fun h2 hs2=>?_⟩
 have S3:=S'.buts (tk:=s'.toks) (h':=h2) (wr:=[C]) ok (fun a ha=>by rw [List.mem_singleton.mp ha]; exact OC) fun b o hb e=>hs2.extBut b o (fun q=>hb (List.mem_singleton.mpr q)) e
 obtain ⟨F4,R4,X4,S4,V4⟩:=out_list S3 OD (hs2.extBut _ _ hDC g') v' h
 exact ⟨F4,R4,X.trans X4,S4,V4⟩
theorem rsSetComp (ok:EnvOK env) {elt target iter:PySem.Expr} {ifs:List PySem.Expr} {scope:Scope} {pos:Pos} {fm:List (Option Nat)} {mi:AM (List V)} {mt:V -> AM Unit} {test:AM Bool} {me:AM V} {out:St -> Option Bool} (k:CompOK c d env elt target iter ifs scope fm mi mt test me)
  {i:Nat} {y:Str} {py spos:Pos} (hi:Names env i y) (hsw:swapsWith (.ListComp elt [⟨target,iter,ifs,0⟩] scope pos) (some (.Name y py)) spos.line env = pure true) :
  RS c d env (exec (.Assign [.Name y py] (.ListComp elt [⟨target,iter,ifs,0⟩] scope pos) spos) env) (sSet i (mCompE out (mComp fm mi mt test me))):=by
 refine ⟨fun A gA K F R σ s S fl σ' h=>?_⟩
 revert h
 refine AM.bind_elim fun v σ2 h2 h=>?_
 revert h2
 refine AM.bind_elim fun vs σ1 e1 h2=>?_
 refine some2E h fun z0_ z1_=>?_
 subst z0_
 subst z1_
 rw [exec_Assign_Name_used _ _ _ _ hsw]
 refine wpAny_bind (wpAny_standAt (wpAny_bind ?_))
 show wpAny _ A (do let _ ← comprehension (.ListComp elt [⟨target,iter,ifs,0⟩] scope pos) scope env _ (newList []) false (eval iter env) (some (assign (.Name y py) env))) _ _ s
 refine wpAny_bind (wpAny_mono (comp_run ok k gA S e1 (use:=some (assign (.Name y py) env)) (Q:=PostU c env K F R (σ2.setLoc i v)) fun D C cvs n F' R' s' m X S' g' v' OD OC hDC hm=>?_) (fun _ s' q1_=>by obtain ⟨F',R',X,S'⟩:=q1_; exact wpAny_pure (wpAny_pure ⟨F',R',X,S',.next⟩)) fun _ _ z=>z)
 have S3:=S'.guard (wr:=[C]) fun a ha=>by rw [List.mem_singleton.mp ha]; exact OC
 have hK:=S'.st.hK
 have OD3:Out env (guardK K [C] s') F' R' σ1 D:=OD.guard hK fun q=>hDC (List.mem_singleton.mp q)
 refine hG9 fun P_ b_=>?_
 obtain ⟨F4,R4,X4,S4,V4⟩:=out_list S3 OD3 g' v' h2
 obtain ⟨oC,esC,epC,gC,rC⟩:=hm
 refine b_ ?_; clear b_ P_
 show wpAny _ A (assign (.Name y py) env (.ref D)) _ _ _
 refine wpAny_assign_Name (S4.store ok hi V4 fun s5 S5=>?_)
 refine hG9 fun P_ b_=>?_
 obtain ⟨X6,S6,O6,g6⟩:=guard_one S' OC gC X4 S5
 refine b_ ?_; clear b_ P_
 refine ⟨m,⟨oC,esC,epC,g6,rC⟩,fun h7 hs7=>⟨F4,R4,X.trans X6,?_⟩⟩
 exact S6.buts (tk:=s5.toks) (h':=h7) (wr:=[C]) ok (fun a ha=>by rw [List.mem_singleton.mp ha]; exact O6) fun b o hb e=>hs7.extBut b o (fun q=>hb (List.mem_singleton.mpr q)) e
end
section
variable {prog:Program} {w:World} {A:Around} {R:Result -> Shared -> Prop} {s:Shared}
theorem compTurn_two (elt t0 it0 t1 it1:PySem.Expr) (ifs:List PySem.Expr) (scope:Scope) (pos:Pos) (it acc:Value) (env:Env) :
  compTurn (.ListComp elt [⟨t0,it0,[],0⟩,⟨t1,it1,ifs,0⟩] scope pos) 0 it acc env = (standAt it0.pos >>= fun _=>pyNext it >>= fun r=>match r with
   | none=>pure (.done .next)
   | some v=>letOwnedTupleGo t0 it v >>= fun _=>assign t0 env v >>= fun _=>eval it1 env >>= fun x=>standAt it1.pos >>= fun _=>foldedSetIterable it1 env x >>= fun x=>holding [x] (pyIter x) >>= fun i1 =>
    runOwn (.compStart (.ListComp elt [⟨t0,it0,[],0⟩,⟨t1,it1,ifs,0⟩] scope pos) 1 i1 acc env) env >>= fun _ =>
     again (.compLoop (.ListComp elt [⟨t0,it0,[],0⟩,⟨t1,it1,ifs,0⟩] scope pos) 0 it acc env)):=by rfl
theorem compTurn_two1 (elt t0 it0 t1 it1:PySem.Expr) (ifs:List PySem.Expr) (scope:Scope) (pos:Pos) (it acc:Value) (env:Env) :
  compTurn (.ListComp elt [⟨t0,it0,[],0⟩,⟨t1,it1,ifs,0⟩] scope pos) 1 it acc env = (do
   standAt it1.pos
   match ← pyNext it with
   | none=>pure (.done .next)
   | some v =>
    letOwnedTupleGo t1 it v
    assign t1 env v
    let mut ok:=true
    for c in ifs do
     if ok then ok ← isTrue c env (eval c env)
    if ok then
     (do let _ ← call (.builtin "list.append") [acc,← eval elt env])
    again (.compLoop (.ListComp elt [⟨t0,it0,[],0⟩,⟨t1,it1,ifs,0⟩] scope pos) 1 it acc env)):=by rfl
theorem compLoop2_gen {elt t0 it0 t1 it1:PySem.Expr} {ifs:List PySem.Expr} {scope:Scope} {pos:Pos} {it acc:Value} {env:Env} (hs:∀ x,foldedSetIterable it1 env x = pure x) (I:Nat -> Shared -> Prop)
  (turn:∀ n s,I n s -> wpAny (model prog w) A (pyNext it) (fun r s₁=>match r with
   | none=>R (.ok .next) s₁
   | some v=>wpAny (model prog w) A (letOwnedTupleGo t0 it v) (fun _ s₁'=>wpAny (model prog w) A (assign t0 env v) (fun _ s₂=>wpAny (model prog w) A (eval it1 env) (fun x s₃=>wpAny (model prog w) A (pyIter x) (fun i1 s₄ =>
     codeAny (model prog w) A (.compStart (.ListComp elt [⟨t0,it0,[],0⟩,⟨t1,it1,ifs,0⟩] scope pos) 1 i1 acc env) (fun r s₅=>match r with | .ok _=>∃ m,m < n ∧ I m s₅ | .error _=>False) s₄) NoE s₃) NoE s₂) NoE s₁') NoE s₁) NoE s)
  (n:Nat) (h:I n s):codeAny (model prog w) A (.compLoop (.ListComp elt [⟨t0,it0,[],0⟩,⟨t1,it1,ifs,0⟩] scope pos) 0 it acc env) R s:=by
 refine codeAny_loop rfl I (fun n s hI=>?_) n h
 show wpAny _ A ((compTurn (.ListComp elt [⟨t0,it0,[],0⟩,⟨t1,it1,ifs,0⟩] scope pos) 0 it acc env).onRaise (fun x=>do noteFrame x env; theTreesLotGoes x)) _ _ s
 refine wpAny_noted ?_
 rw [compTurn_two]
 refine wpAny_bind (wpAny_standAt (wpAny_bind (wpAny_mono (turn n s hI) (fun r s₁ h₁=>?_) fun _ _ h'=>h'.elim)))
 cases r with
 | none=>exact wpAny_pure h₁
 | some v =>
  refine wpAny_bind (wpAny_mono h₁ (fun _ s₁' h₁'=>?_) fun _ _ h'=>h'.elim)
  refine wpAny_bind (wpAny_mono h₁' (fun _ s₂ h₂=>wpAny_bind (wpAny_mono h₂ (fun x s₃ h₃=>wpAny_bind (wpAny_standAt (wpAny_bind (wpAny_of_eq (hs x) (wpAny_bind (wpAny_holding (wpAny_mono h₃ (fun i1 s₄ h₄=>?_) fun _ _ h'=>h'.elim))))))) fun _ _ h'=>h'.elim)) fun _ _ h'=>h'.elim)
  refine wpAny_bind (wpAny_runOwn (codeAny_mono h₄ fun r s₅ h₅=>?_))
  cases r with
  | ok f=>exact wpAny_pure ⟨rfl,h₅⟩
  | error _=>exact h₅.elim
theorem compStart1 {elt t0 it0 t1 it1:PySem.Expr} {ifs:List PySem.Expr} {scope:Scope} {pos:Pos} {it acc:Value} {env:Env}
  (h0:codeAny (model prog w) A (.compLoop (.ListComp elt [⟨t0,it0,[],0⟩,⟨t1,it1,ifs,0⟩] scope pos) 1 it acc env) R s)
  (h:wpAny (model prog w) A (pyIter it) (fun it' s'=>codeAny (model prog w) A (.compLoop (.ListComp elt [⟨t0,it0,[],0⟩,⟨t1,it1,ifs,0⟩] scope pos) 1 it' acc env) R s') NoE s) :
  codeAny (model prog w) A (.compStart (.ListComp elt [⟨t0,it0,[],0⟩,⟨t1,it1,ifs,0⟩] scope pos) 1 it acc env) R s:=by
 refine codeAny_of_tree ?_
 show wpAny _ _ ((compStart (.ListComp elt [⟨t0,it0,[],0⟩,⟨t1,it1,ifs,0⟩] scope pos) 1 it acc env).onRaise (fun x=>do noteFrame x env; standAt theWindowsPlace)) _ _ s
 refine wpAny_notedAt ?_
 unfold compStart
 show wpAny _ _ (ask >>= _) _ _ s
 refine wpAny_bind (wpAny_askSetting (wpAny_ite ?_))
 split
 ·first
   | exact wpAny_bind (wpAny_pure (wpAny_pure (And.intro rfl h0)))
   | exact wpAny_pure (And.intro rfl h0)
 ·first
   | exact wpAny_bind (wpAny_rule (wpAny_bind (wpAny_standAt (wpAny_bind (wpAny_mono h (fun it' s' h'=>wpAny_pure (And.intro rfl h')) fun _ _ x=>x.elim)))))
   | (refine wpAny_bind (wpAny_rule ?_); show wpAny _ _ (standAt it1.pos >>= _) _ _ s; exact wpAny_bind (wpAny_standAt (wpAny_bind (wpAny_mono h (fun it' s' h'=>wpAny_pure (And.intro rfl h')) fun _ _ x=>x.elim))))
end
theorem loopCode2 {c:Cx} {env:Env} {A:Around} {elt t0 it0 t1 it1:PySem.Expr} {ifs:List PySem.Expr} {scope:Scope} {pos:Pos} {it acc:Value}:LoopCode c A (.compLoop (.ListComp elt [⟨t0,it0,[],0⟩,⟨t1,it1,ifs,0⟩] scope pos) 1 it acc env) elt t1 ifs it acc env:=by
 intro R I turn n s h
 refine codeAny_loop rfl I (fun n s hI=>?_) n h
 show wpAny _ A ((compTurn (.ListComp elt [⟨t0,it0,[],0⟩,⟨t1,it1,ifs,0⟩] scope pos) 1 it acc env).onRaise (fun x=>do noteFrame x env; theTreesLotGoes x)) _ _ s
 refine wpAny_noted ?_
 rw [compTurn_two1]
 refine wpAny_bind (wpAny_standAt (wpAny_bind (wpAny_mono (turn n s hI) (fun r s₁ h₁=>?_) fun _ _ h'=>h'.elim)))
 cases r with
 | none=>exact wpAny_pure h₁
 | some v =>
  refine wpAny_bind (wpAny_mono h₁ (fun _ s₁' h₁'=>?_) fun _ _ h'=>h'.elim)
  refine wpAny_bind (wpAny_mono h₁' (fun _ s₂ h₂=>wpAny_bind (wpAny_mono h₂ (fun ok s₃ h₃=>?_) fun _ _ h'=>h'.elim)) fun _ _ h'=>h'.elim)
  cases ok with
  | false=>exact wpAny_pure ⟨rfl,h₃⟩
  | true =>
   exact wpAny_bind (wpAny_bind (wpAny_mono h₃ (fun x s₄ h₄=>wpAny_bind (wpAny_mono h₄ (fun _ s₅ h₅=>wpAny_pure (wpAny_pure ⟨rfl,h₅⟩)) fun _ _ h'=>h'.elim)) fun _ _ h'=>h'.elim))
noncomputable def compM2 (mt0:V -> AM Unit) (mi1:AM (List V)) (mt:V -> AM Unit) (test:AM Bool) (elt:AM V):List V -> AM (List V)
 | []=>pure []
 | v :: vs=>do
  mt0 v
  let ws ← mi1
  let r1 ← compM mt test elt ws
  let r2 ← compM2 mt0 mi1 mt test elt vs
  pure (r1 ++ r2)
theorem compM2_cons {mt0:V -> AM Unit} {mi1:AM (List V)} {mt:V -> AM Unit} {test:AM Bool} {elt:AM V} {v:V} {vs:List V} {σ:St} {r:List V × St} (h:compM2 mt0 mi1 mt test elt (v :: vs) σ = some r) :
  Ex6 fun σ1 ws σ2 r1 σ3 r2=>And5 (mt0 v σ = some ((),σ1)) (mi1 σ1 = some (ws,σ2)) (compM mt test elt ws σ2 = some (r1,σ3)) (compM2 mt0 mi1 mt test elt vs σ3 = some (r2,r.2)) (r.1 = r1 ++ r2):=by
 refine hG9 fun P_ b_=>?_
 revert h
 refine AM.bind_elim fun u σ1 e1 h=>?_
 revert h
 refine AM.bind_elim fun ws σ2 e2 h=>?_
 revert h
 refine AM.bind_elim fun r1 σ3 e3 h=>?_
 revert h
 refine AM.bind_elim fun r2 σ4 e4 h=>?_
 cases h
 refine b_ ?_; clear b_ P_
 exact ⟨σ1,ws,σ2,r1,σ3,r2,e1,e2,e3,e4,rfl⟩
section
variable {c:Cx} {d:Nat} {env:Env} {K F:Heap} {R:Adrs} {σ:St} {s:Shared}
theorem comp2_core (ok:EnvOK env) {elt t0 it0 t1 it1:PySem.Expr} {ifs:List PySem.Expr} {scope:Scope} {pos:Pos} {mt0:V -> AM Unit} {mi1:AM (List V)} {mt:V -> AM Unit} {test:AM Bool} {me:AM V} (hs:∀ x,foldedSetIterable it1 env x = pure x) (ht0:Tar c d env t0 mt0) (hi1:RI c d env t1 it1 mi1)
  (ht:Tar c d env t1 mt) (hts:RB c d env (tstS ifs env) test) (he:RE c d env (eval elt env) me)
  {A:Around} (gA:GoodA A d) {I:Addr} {wr fp:List Addr} {It:Nat -> Heap -> Prop} {vs:List V} {F₀:Heap} {R₀:Adrs} (T:Turns c t0 I wr fp It vs F₀ R₀) {D:Addr} {K:Heap} {σ':St} {P:Result -> Shared -> Prop} {all:List V} (hlen:all.length < lid)
  (hP:∀ cvs n F' R' s',Ext K F₀ R₀ F' R' -> Sim c env K F' R' σ' s' -> s'.heap.get? D = some (seqO "list" cvs n) -> VAll c F' R' cvs all -> Out env K F' R' σ' D -> P (.ok .next) s')
  {F:Heap} {R:Adrs} {σ:St} {s:Shared} (X:Ext K F₀ R₀ F R) (S:Sim c env K F R σ s) (hw:∀ a ∈ wr,Out env K F R σ a) (hDO:Out env K F R σ D) (hDw:D ∉ wr) (hDf:D ∉ fp) (hi:It 0 s.heap) {n₀:Nat} (hD:s.heap.get? D = some (seqO "list" [] n₀))
  (h:compM2 mt0 mi1 mt test me vs σ = some (all,σ')):codeAny (model c.prog c.w) A (.compLoop (.ListComp elt [⟨t0,it0,[],0⟩,⟨t1,it1,ifs,0⟩] scope pos) 0 (.ref I) (.ref D) env) P s:=by
 refine compLoop2_gen hs (CompInv c env (compM2 mt0 mi1 mt test me) wr It vs F₀ R₀ D K σ' all) ?_
  vs.length ⟨0,F,R,σ,[],all,[],n₀,rfl,Nat.zero_le _,X,S,hw,hDO,hi,hD,.nil,h,rfl⟩
 intro n s1 h0_
 refine hG9 fun P_ b_=>?_
 obtain ⟨i,F1,R1,σ1,done,rest,cvs,k,rfl,hle,X1,S1,hw1,hD1,hi1',gD,gV,h1,hall⟩:=h0_
 have hK1:=S1.st.hK
 have G1:=S1.guard (wr:=[D]) fun a ha=>by rw [List.mem_singleton.mp ha]; exact hD1
 have hw1':∀ a ∈ wr,Out env (guardK K [D] s1) F1 R1 σ1 a:=fun a ha=>(hw1 a ha).guard hK1 fun q=>hDw (List.mem_singleton.mp q ▸ ha)
 rcases Nat.lt_or_ge i vs.length with hlt | hge
 ·have hv:vs[i]? = some vs[i]:=List.getElem?_eq_getElem hlt
  rw [List.drop_eq_getElem_cons hlt] at h1
  obtain ⟨σ2,ws,σ3,r1,σ4,r2,e1,e2,e3,e4,e5⟩:=compM2_cons h1
  have e5:rest = r1 ++ r2:=e5
  refine b_ ?_; clear b_ P_
  refine T.go gA.1 ok ⟨K,X1⟩ G1 hw1' hi1' hv fun cv s2 st=>st fun _ F3 s3 X3 S3 hw3 hi3 V3=>?_
  refine hG9 fun P_ b_=>?_
  obtain ⟨Y3,S3',D3,gD3⟩:=guard_one S1 hD1 gD X3 S3
  have hw3':∀ a ∈ wr,Out env K F3 R1 σ1 a:=fun a ha=>(hw3 a ha).less (guardK_K hK1)
  have hK3:=S3'.st.hK
  have Gw:=S3'.guard hw3'
  have D3w:=D3.guard (s:=s3) hK3 hDw
  have GD:=Gw.guard (wr:=[D]) fun a ha=>by rw [List.mem_singleton.mp ha]; exact D3w
  refine b_ ?_; clear b_ P_
  refine ht0.go gA GD V3 e1 fun _ F4 R4 s4 X4 S4=>?_
  refine wpAny_mono (hi1.run A gA _ _ _ _ _ S4 ws σ3 e2) (fun x s5 h5=>wpAny_mono h5 (fun i1 s6 h_=>?_) fun _ _ z=>z) fun _ _ z=>z
  obtain ⟨F6,R6,I1,wr1,fp1,It1,X6,S6,hit,hw6,hi6,T1⟩:=h_
  subst hit
  obtain ⟨Y7,S7,D7,gD7⟩:=guard_one Gw D3w gD3 (X4.trans X6) S6
  have hw7:∀ a ∈ wr1,Out env (guardK K wr s3) F6 R6 σ3 a:=fun a ha=>(hw6 a ha).less (guardK_K Gw.st.hK)
  have hDw1:D ∉ wr1:=fun q=>by
   have:=(hw6 D q).k
   rw [guardK_w (List.mem_singleton.mpr rfl),gD3] at this; cases this
  have hDf1:D ∉ fp1:=fun q=>by
   rcases T1.foot _ q with q | ⟨o,q⟩
   ·exact hDw1 q
   ·rw [D7.f] at q; exact none_some q
  have run:∀ s₃,s₃ = s6 -> codeAny (model c.prog c.w) A (.compLoop (.ListComp elt [⟨t0,it0,[],0⟩,⟨t1,it1,ifs,0⟩] scope pos) 1 (.ref I1) (.ref D) env) (fun r s₅=>match r with | .ok _=>∃ m,m < vs.length - i ∧ Ex8 fun i F1 R1 σ1 done rest cvs k=>And11 (m = vs.length - i) (i ≤ vs.length) (Ext K F₀ R₀ F1 R1) (Sim c env K F1 R1 σ1 s₅) (∀ a ∈ wr,Out env K F1 R1 σ1 a) (Out env K F1 R1 σ1 D) (It i s₅.heap) (s₅.heap.get? D = some (seqO "list" cvs k)) (VAll c F1 R1 cvs done) (compM2 mt0 mi1 mt test me (vs.drop i) σ1 = some (rest,σ')) (all = done ++ rest) | .error _=>False) s₃:=by
   rintro s₃ rfl
   refine comp_core ok ht hts he gA T1 (all:=done ++ r1) loopCode2 (Nat.lt_of_le_of_lt (by rw [hall,e5]; simp only [List.length_append]; omega) hlen) (fun dvs n8 F8 R8 s8 X8 S8 g8 V8 D8=>?_) (Ext.refl ..) S7 hw7 D7 hDw1 hDf1 hi6 gD7 (gV.ext (Y3.trans ⟨Y7.f,Y7.g,Y7.t,fun a o e=>Y7.k a o (guardK_K hK3 a o e)⟩)) e3 rfl
   obtain ⟨Y9,S9,hw9,hi9⟩:=guard_back T S3' hw3' (fun a o e=>Y3.f a o (X1.f a o e)) hi3 (Y7.trans X8) S8
   exact ⟨vs.length - (i + 1),by exact uD ‹_›,i + 1,F8,R8,σ4,done ++ r1,r2,dvs,n8,rfl,hlt,(X1.trans Y3).trans Y9,S9,hw9,D8.less (guardK_K hK3),hi9,g8,V8,e4,by rw [hall,e5,List.append_assoc]⟩
  exact compStart1 (run _ rfl) (T1.self A gA.1 0 _ _ _ hi6 (run _ rfl))
 ·have he:i = vs.length:=Nat.le_antisymm hle hge
  subst he
  rw [List.drop_length] at h1
  refine some2E h1 fun z0_ z1_=>?_
  subst z0_
  subst z1_
  refine b_ ?_; clear b_ P_
  refine T.fin gA.1 ok ⟨K,X1⟩ G1 hw1' hi1' fun s2 S2=>?_
  refine hG9 fun P_ b_=>?_
  obtain ⟨X8,S8,hD8,gD8⟩:=guard_one S1 hD1 gD (Ext.refl ..) S2
  rw [List.append_nil] at hall
  subst hall
  refine b_ ?_; clear b_ P_
  exact hP cvs k F1 R1 s2 X1 S8 gD8 gV hD8
end
section
variable {c:Cx} {d:Nat} {env:Env} {K F:Heap} {R:Adrs} {σ:St} {s:Shared}
set_option tactic.hygienic true in
theorem comp_block2 (ok:EnvOK env) {elt target iter t1 it1:PySem.Expr} {ifs:List PySem.Expr} {scope:Scope} {pos:Pos} {fm:List (Option Nat)} (sb:Sub env scope fm) {mt0:V -> AM Unit} {mi1:AM (List V)} {mt:V -> AM Unit} {test:AM Bool} {me:AM V}
  (hs1:∀ cl C x,foldedSetIterable it1 (compEnvC scope cl C env) x = pure x) (ht0:∀ cl C,EnvOK (compEnvC scope cl C env) -> Tar c d (compEnvC scope cl C env) target mt0) (hi1:∀ cl C,EnvOK (compEnvC scope cl C env) -> RI c d (compEnvC scope cl C env) t1 it1 mi1) (ht:∀ cl C,EnvOK (compEnvC scope cl C env) -> Tar c d (compEnvC scope cl C env) t1 mt) (hts:∀ cl C,EnvOK (compEnvC scope cl C env) -> RB c d (compEnvC scope cl C env) (tstS ifs (compEnvC scope cl C env)) test)
  (he:∀ cl C,EnvOK (compEnvC scope cl C env) -> RE c d (compEnvC scope cl C env) (eval elt (compEnvC scope cl C env)) me) {A:Around} (gA:GoodA A d) {I:Addr} {wr fp:List Addr} {It:Nat -> Heap -> Prop} {vs:List V} (T:Turns c target I wr fp It vs F R)
  (S:Sim c env K F R σ s) (hw:∀ a ∈ wr,Out env K F R σ a) (hi:It 0 s.heap) {all:List V} {σ':St} (hlen:all.length < lid) (h:inSub fm (compM2 mt0 mi1 mt test me vs) σ = some (all,σ')) {RR:Value -> Addr -> Result -> Shared -> Prop} {E:Value -> Shared -> Prop}
  (hRR:∀ D C cvs n F' R' s' m,Ext K F R F' R' -> Sim c env K F' R' σ' s' -> s'.heap.get? D = some (seqO "list" cvs n) -> VAll c F' R' cvs all -> Out env K F' R' σ' D -> Out env K F' R' σ' C -> D ≠ C -> s'.heap.Ns C m -> RR (.ref D) C (.ok .next) s') :
  wpAny (model c.prog c.w) A (newList []) (fun acc s₃=>wpAny (model c.prog c.w) A (newFunctionEnv scope env.globals (clL env scope.names []) [] env.qual none .none (some env)) (fun cenv s₄ =>
   codeAny (model c.prog c.w) A (.compStart (.ListComp elt [⟨target,iter,[],0⟩,⟨t1,it1,ifs,0⟩] scope pos) 0 (.ref I) acc { cenv with scope:=relabel scope env }) (RR acc cenv.locals) s₄) E s₃) E s:=by
 refine wpAny_newObj_type (wpAny_newFunctionEnv sb.nocell (by intro y hy; simp at hy) (fun h₁ hns₁ hsb₁=>?_) sb.kind)
 dsimp only at hns₁ hsb₁ ⊢
 generalize hH2:s.heap.push { cls:=.type "list",dict:=none,data:=.seq ([]:List Value).toArray } = H2 at hns₁ hsb₁ ⊢
 have hC:H2.objs.size = s.heap.objs.size + 1:=by rw [← hH2,Heap.size_push]
 have hDC:s.heap.objs.size ≠ H2.objs.size:=by rw [hC]; exact Nat.ne_of_lt (Nat.lt_succ_self _)
 have hCle:s.heap.objs.size ≤ H2.objs.size:=by rw [hC]; exact Nat.le_succ _
 have below:∀ b,b < s.heap.objs.size -> b ≠ H2.objs.size ∧ b ≠ s.heap.objs.size:=fun b hb=>⟨by rw [hC]; exact Nat.ne_of_lt (Nat.lt_succ_of_lt hb),Nat.ne_of_lt hb⟩
 have old:s.heap.StaysIn h₁:=fun b o e=>hsb₁.extBut b o (below b (Heap.lt_size e)).1 (Heap.get?_push_of_some _ (hH2 ▸ Heap.get?_push_of_some _ e))
 have hacc:h₁.get? s.heap.objs.size = some (seqO "list" [] 0):=hsb₁.extBut _ _ hDC (Heap.get?_push_of_some _ (hH2 ▸ Heap.get?_push_size _ rfl))
 have OD:=S.outNew ok (Nat.le_refl _)
 have OC:=S.outNew ok hCle
 refine map_elim h fun p hm h=>?_
 obtain ⟨all',σc⟩:=p
 refine hG9 fun P_ b_=>?_
 obtain ⟨rfl,rfl⟩:=Prod.mk.inj h
 ·skip
  have okC:EnvOK (compEnvC scope (clL env scope.names []) H2.objs.size env):=sub_ok S ok sb _
  have SC:=S.sub (tk:=s.toks + ([]:List (Str × Value)).length) ok sb hCle old hns₁
  have hlow:∀ a ∈ wr,a < s.heap.objs.size:=fun a ha=>(by obtain ⟨_,e⟩:=T.here 0 _ hi a ha; exact Heap.lt_size e)
  have hDw:s.heap.objs.size ∉ wr:=fun q=>Nat.lt_irrefl _ (hlow _ q)
  have hDf:s.heap.objs.size ∉ fp:=fun q=>by
   rcases T.foot _ q with q | ⟨o,q⟩
   ·exact hDw q
   ·exact Nat.lt_irrefl _ (Heap.lt_size (S.st.hF _ _ q))
  have hi₁:It 0 h₁:=T.frame _ _ _ hi fun b _ o e=>old b o e
  have loop:∀ s₃:Shared,s₃ = { s with heap:=h₁,toks:=s.toks + ([]:List (Str × Value)).length } ->
    codeAny (model c.prog c.w) A (.compLoop (.ListComp elt [⟨target,iter,[],0⟩,⟨t1,it1,ifs,0⟩] scope pos) 0 (.ref I) (.ref s.heap.objs.size) (compEnvC scope (clL env scope.names []) H2.objs.size env)) (RR (.ref s.heap.objs.size) H2.objs.size) s₃:=by
   rintro s₃ rfl
   refine comp2_core okC (hs1 _ _) (ht0 _ _ okC) (hi1 _ _ okC) (ht _ _ okC) (hts _ _ okC) (he _ _ okC) gA T hlen (fun cvs n F' R' s' X' S' g' v' O'=>?_) (Ext.refl ..) SC (fun a ha=>(hw a ha).sub S ok sb (below a (hlow a ha)).1 _) (OD.sub S ok sb hDC _) hDw hDf hi₁ hacc hm
   obtain ⟨X2,S2⟩:=S.leave0 ok X' S'.st
   have eH:St.sel { σc with loc:=σ.loc } = σc.sel:=by funext b; cases b <;> rfl
   obtain ⟨m',hm',_⟩:=S'.ns
   exact hRR _ _ cvs n F' R' s' m' X2 S2 g' v' ⟨OD.k,O'.f,fun g n b o k=>by rw [eH] at k; exact O'.l g n b o k,OD.L,OD.c⟩ ⟨OC.k,S'.lF,fun g n b o k=>by rw [eH] at k; exact S'.lR g n b o k,OC.L,OC.c⟩ hDC hm'
  refine b_ ?_; clear b_ P_
  exact codeAny_compStart_list (loop _ rfl) (T.self A gA.1 0 _ _ _ hi₁ (loop _ rfl))
noncomputable def mComp2 (fm:List (Option Nat)) (mi:AM (List V)) (mt0:V -> AM Unit) (mi1:AM (List V)) (mt:V -> AM Unit) (test:AM Bool) (me:AM V):AM (List V):=do
 let vs ← mi
 let all ← inSub fm (compM2 mt0 mi1 mt test me vs)
 if all.length < lid then pure all else failure
theorem mComp2_some {fm:List (Option Nat)} {mi:AM (List V)} {mt0:V -> AM Unit} {mi1:AM (List V)} {mt:V -> AM Unit} {test:AM Bool} {me:AM V} {r:List V × St} (h:mComp2 fm mi mt0 mi1 mt test me σ = some r):Ex2 fun vs σ1=>And3 (mi σ = some (vs,σ1)) (inSub fm (compM2 mt0 mi1 mt test me vs) σ1 = some r) (r.1.length < lid):=by
 refine hG9 fun P_ b_=>?_
 revert h
 refine AM.bind_elim fun vs σ1 e1 h=>?_
 revert h
 refine AM.bind_elim fun all σ2 e2 h=>?_
 replace h:=AM.ite_some h
 obtain ⟨hl,h⟩:=h
 refine some2E h fun z0_ z1_=>?_
 subst z0_
 subst z1_
 refine b_ ?_; clear b_ P_
 exact ⟨vs,σ1,e1,e2,hl⟩
structure CompOK2 (c:Cx) (d:Nat) (env:Env) (elt target iter t1 it1:PySem.Expr) (ifs:List PySem.Expr) (scope:Scope) (fm:List (Option Nat)) (mi:AM (List V)) (mt0:V -> AM Unit) (mi1:AM (List V)) (mt:V -> AM Unit) (test:AM Bool) (me:AM V):Prop where
 sb:Sub env scope fm
 it:RI c d env target iter mi
 hs1:∀ cl C x,foldedSetIterable it1 (compEnvC scope cl C env) x = pure x
 t0:∀ cl C,EnvOK (compEnvC scope cl C env) -> Tar c d (compEnvC scope cl C env) target mt0
 it1:∀ cl C,EnvOK (compEnvC scope cl C env) -> RI c d (compEnvC scope cl C env) t1 it1 mi1
 t:∀ cl C,EnvOK (compEnvC scope cl C env) -> Tar c d (compEnvC scope cl C env) t1 mt
 ts:∀ cl C,EnvOK (compEnvC scope cl C env) -> RB c d (compEnvC scope cl C env) (tstS ifs (compEnvC scope cl C env)) test
 e:∀ cl C,EnvOK (compEnvC scope cl C env) -> RE c d (compEnvC scope cl C env) (eval elt (compEnvC scope cl C env)) me
 hs:∀ x,foldedSetIterable iter env x = pure x
theorem comp_run2 (ok:EnvOK env) {elt target iter t1 it1:PySem.Expr} {ifs:List PySem.Expr} {scope:Scope} {pos:Pos} {fm:List (Option Nat)} {mi:AM (List V)} {mt0:V -> AM Unit} {mi1:AM (List V)} {mt:V -> AM Unit} {test:AM Bool} {me:AM V} (k:CompOK2 c d env elt target iter t1 it1 ifs scope fm mi mt0 mi1 mt test me)
  {A:Around} (gA:GoodA A d) (S:Sim c env K F R σ s) {r:List V × St} (h:mComp2 fm mi mt0 mi1 mt test me σ = some r) {use:Option (Value -> Sem Unit)} {Q:Value -> Shared -> Prop}
  (q:∀ D C cvs n F' R' s' m,Ext K F R F' R' -> Sim c env K F' R' r.2 s' -> s'.heap.get? D = some (seqO "list" cvs n) -> VAll c F' R' cvs r.1 -> Out env K F' R' r.2 D -> Out env K F' R' r.2 C -> D ≠ C -> s'.heap.Ns C m -> compPost (model c.prog c.w) A NoE use Q (.ref D) C (.ok .next) s') :
  wpAny (model c.prog c.w) A (comprehension (.ListComp elt [⟨target,iter,[],0⟩,⟨t1,it1,ifs,0⟩] scope pos) scope env (firstIterPos [⟨target,iter,[],0⟩,⟨t1,it1,ifs,0⟩] pos) (newList []) false (eval iter env) use) Q NoE s:=by
 refine hG9 fun P_ b_=>?_
 obtain ⟨vs,σ1,e1,e2,hl⟩:=mComp2_some h
 refine b_ ?_; clear b_ P_
 refine wpAny_comprehension_free rfl k.hs (clos_is fun x hx=>Option.isSome_iff_exists.mpr (sub_cells S k.sb hx)) k.sb.kind (fun x hx hx2=>?_) (wpAny_mono (k.it.run A gA K F R σ s S vs σ1 e1) (fun x s1 h1=>wpAny_mono h1 (fun it s2 q_=>?_) fun _ _ z=>z) fun _ _ z=>z)
 ·skip
  obtain ⟨i,hi⟩:=List.mem_iff_getElem?.mp hx
  obtain ⟨n,k'⟩:=x
  cases hx2
  exact lookup_nd k.sb.nd hi
 ·obtain ⟨F',R',I,wr,fp,It,X,S2,hit,hw,hi,T⟩:=q_
  subst hit
  exact comp_block2 ok k.sb k.hs1 k.t0 k.it1 k.t k.ts k.e gA T S2 hw hi hl e2 fun D C cvs n F3 R3 s3 m X3 S3 g3 v3 OD OC hDC hm=>q D C cvs n F3 R3 s3 m (X.trans X3) S3 g3 v3 OD OC hDC hm
theorem rsSetComp2 (ok:EnvOK env) {elt target iter t1 it1:PySem.Expr} {ifs:List PySem.Expr} {scope:Scope} {pos:Pos} {fm:List (Option Nat)} {mi:AM (List V)} {mt0:V -> AM Unit} {mi1:AM (List V)} {mt:V -> AM Unit} {test:AM Bool} {me:AM V} {out:St -> Option Bool} (k:CompOK2 c d env elt target iter t1 it1 ifs scope fm mi mt0 mi1 mt test me)
  {i:Nat} {y:Str} {py spos:Pos} (hi:Names env i y) (hsw:swapsWith (.ListComp elt [⟨target,iter,[],0⟩,⟨t1,it1,ifs,0⟩] scope pos) (some (.Name y py)) spos.line env = pure true) :
  RS c d env (exec (.Assign [.Name y py] (.ListComp elt [⟨target,iter,[],0⟩,⟨t1,it1,ifs,0⟩] scope pos) spos) env) (sSet i (mCompE out (mComp2 fm mi mt0 mi1 mt test me))):=by
 refine ⟨fun A gA K F R σ s S fl σ' h=>?_⟩
 revert h
 refine AM.bind_elim fun v σ2 h2 h=>?_
 revert h2
 refine AM.bind_elim fun vs σ1 e1 h2=>?_
 refine some2E h fun z0_ z1_=>?_
 subst z0_
 subst z1_
 rw [exec_Assign_Name_used _ _ _ _ hsw]
 refine wpAny_bind (wpAny_standAt (wpAny_bind ?_))
 show wpAny _ A (do let _ ← comprehension (.ListComp elt [⟨target,iter,[],0⟩,⟨t1,it1,ifs,0⟩] scope pos) scope env _ (newList []) false (eval iter env) (some (assign (.Name y py) env))) _ _ s
 refine wpAny_bind (wpAny_mono (comp_run2 ok k gA S e1 (use:=some (assign (.Name y py) env)) (Q:=PostU c env K F R (σ2.setLoc i v)) fun D C cvs n F' R' s' m X S' g' v' OD OC hDC hm=>?_) (fun _ s' q1_=>by obtain ⟨F',R',X,S'⟩:=q1_; exact wpAny_pure (wpAny_pure ⟨F',R',X,S',.next⟩)) fun _ _ z=>z)
 have S3:=S'.guard (wr:=[C]) fun a ha=>by rw [List.mem_singleton.mp ha]; exact OC
 have hK:=S'.st.hK
 have OD3:Out env (guardK K [C] s') F' R' σ1 D:=OD.guard hK fun q=>hDC (List.mem_singleton.mp q)
 refine hG9 fun P_ b_=>?_
 obtain ⟨F4,R4,X4,S4,V4⟩:=out_list S3 OD3 g' v' h2
 obtain ⟨oC,esC,epC,gC,rC⟩:=hm
 refine b_ ?_; clear b_ P_
 show wpAny _ A (assign (.Name y py) env (.ref D)) _ _ _
 refine wpAny_assign_Name (S4.store ok hi V4 fun s5 S5=>?_)
 refine hG9 fun P_ b_=>?_
 obtain ⟨X6,S6,O6,g6⟩:=guard_one S' OC gC X4 S5
 refine b_ ?_; clear b_ P_
 refine ⟨m,⟨oC,esC,epC,g6,rC⟩,fun h7 hs7=>⟨F4,R4,X.trans X6,?_⟩⟩
 exact S6.buts (tk:=s5.toks) (h':=h7) (wr:=[C]) ok (fun a ha=>by rw [List.mem_singleton.mp ha]; exact O6) fun b o hb e=>hs7.extBut b o (fun q=>hb (List.mem_singleton.mpr q)) e
end
set_option tactic.hygienic true in
theorem layNew_led (t:SetTable) (es:Array (Int × Value)) (h:Int) (x:Value):(layNew t es h x).2.1.led = t.led:=by
 unfold layNew
 split
 ·rename_i slot wd _
  have h2:∀ (u:SetTable) (n:Nat),(u.orStandIn n).led = u.led:=fun u n=>by unfold SetTable.orStandIn; split <;> rfl
  exact (h2 _ _).trans rfl
 ·rfl
set_option tactic.hygienic true in
theorem relayAll_led (t:SetTable) (es:Array (Int × Value)) (wanted:Nat):(relayAll t es wanted).2.1.led = t.led:=by
 unfold relayAll
 split
 ·rename_i t' order h
  dsimp only
  split
  ·unfold SetTable.relaid SetTable.laid at h
   refine obind_elim h fun ow _ h=>?_
   cases h
   rfl
  ·rfl
 ·rfl
section
variable {prog:Program} {w:World} {A:Around} {E:Value -> Shared -> Prop} {s:Shared}
theorem SetL.store {h:Heap} {a:Addr} {o:Obj} {es:Array (Int × Value)} {ep:Nat} {t:SetTable} (ho:h.get? a = some o) (hex:o.ExactSet) (hd:o.data = .set es ep t)
  {es':Array (Int × Value)} {t':SetTable} {S':Int -> Bool} (hel:ElemsOf (intKind prog w) es'.toList) (hmem:∀ k,S' k = true ↔ ∃ e ∈ es'.toList,(intKind prog w).is k e.2 = true) (hb:es'.size < scanBound) (hf:t'.fits es'.size = true) (hl:t'.led = true ∨ byText w = true) :
  (h.update a (Obj.putSet es' t')).get? a = some { o with data:=.set es' (ep + 1) t' } ∧ SetL prog w (h.update a (Obj.putSet es' t')) a S' es'.size:=by
 have hg:=(SetOf_store (knd:=intKind prog w) ho hex hd hel hmem hb hf).1
 exact ⟨hg,_,es',ep + 1,t',hg,hex,rfl,hel,hmem,hb,hf,rfl,hl⟩
theorem addTail_led {g:Bool -> Sem Unit} (hg:∀ (b:Bool) (s₁:Shared) (Q':Unit -> Shared -> Prop),Q' () s₁ -> wpAny (model prog w) A (g b) Q' E s₁)
  {a:Addr} {o:Obj} {es:Array (Int × Value)} {ep:Nat} {t:SetTable} (ho:s.heap.get? a = some o) (hex:o.ExactSet) (hd:o.data = .set es ep t)
  {es1:Array (Int × Value)} {t2:SetTable} {S':Int -> Bool} (hel1:ElemsOf (intKind prog w) es1.toList) (hmem1:∀ k',S' k' = true ↔ ∃ e ∈ es1.toList,(intKind prog w).is k' e.2 = true)
  (hb1:es1.size < scanBound) (hf2:t2.fits es1.size = true) (hl:t2.led = true ∨ byText w = true) {wasDummy:Bool} {R:Option Bool -> Shared -> Prop}
  (h:∀ h',Heap.SameBut a s.heap h' -> SetL prog w h' a S' es1.size -> R (some true) { s with heap:=h' }) :
  wpAny (model prog w) A (do
    storeSet a es1 t2
    if (!wasDummy && t2.tooFull) = true then do
      g (relayAll t2 es1 (SetTable.grown es1.size)).2.2
      storeSet a (relayAll t2 es1 (SetTable.grown es1.size)).1 (relayAll t2 es1 (SetTable.grown es1.size)).2.1
      pure (some true)
     else pure (some true)) R E s:=by
 refine wpAny_bind (wpAny_storeSet_of ho hd ?_ (fits_of_scanBound hb1))
 obtain ⟨ho1,hS1⟩:=SetL.store (prog:=prog) ho hex hd hel1 hmem1 hb1 hf2 hl
 have hsb1:=Heap.SameBut.update s.heap a (Obj.putSet es1 t2)
 split
 ·have hp:=relayAll_perm t2 es1 (SetTable.grown es1.size)
  have hfr:=relayAll_fits t2 es1 (SetTable.grown es1.size)
  have hlr:=relayAll_led t2 es1 (SetTable.grown es1.size)
  generalize relayAll t2 es1 (SetTable.grown es1.size) = Rl at hp hfr hlr ⊢
  obtain ⟨es2,t3,gave2⟩:=Rl
  dsimp only at hp hfr hlr ⊢
  have hmem2:∀ k',S' k' = true ↔ ∃ e ∈ es2.toList,(intKind prog w).is k' e.2 = true:=fun k'=>(hmem1 k').trans ⟨fun q1_=>by obtain ⟨e,he,q⟩:=q1_; exact ⟨e,hp.mem_iff.mpr he,q⟩,fun q1_=>by obtain ⟨e,he,q⟩:=q1_; exact ⟨e,hp.mem_iff.mp he,q⟩⟩
  have hsz:es2.size = es1.size:=by rw [← Array.length_toList,hp.length_eq,Array.length_toList]
  have hb2:es2.size < scanBound:=by rw [hsz]; exact hb1
  refine wpAny_bind (hg _ _ _ ?_)
  refine wpAny_bind (wpAny_storeSet_of ho1 rfl ?_ (fits_of_scanBound hb2))
  obtain ⟨_,hS2⟩:=SetL.store (prog:=prog) ho1 hex rfl (hel1.perm hp) hmem2 hb2 hfr (by rw [hlr]; exact hl)
  rw [hsz] at hS2
  exact wpAny_pure (h _ (hsb1.trans (Heap.SameBut.update _ a _)) hS2)
 ·exact wpAny_pure (h _ hsb1 hS1)
theorem addHashed_led {a:Addr} {S:Int -> Bool} {n:Nat} {k:Int} {x:Value} {Q:Bool -> Shared -> Prop} (hkey:(intKind prog w).is k x = true) (hsc:x.scannable = true) (hS:SetL prog w s.heap a S n) (hroom:n + 1 < scanBound)
  (h:∀ h',Heap.SameBut a s.heap h' -> SetL prog w h' a (fun k'=>S k' || decide (k' = k)) (if S k then n else n + 1) -> Q (!S k) { s with heap:=h' }) :
  wpAny (model prog w) A (setAddHashed a x ((intKind prog w).hash k)) Q E s:=by
 obtain ⟨o,es,ep,t,ho,hex,hd,hel,hmem,hb,hf,hn,hl⟩:=hS
 have hb1:es.size + 1 < scanBound:=by rw [hn]; exact hroom
 unfold setAddHashed setAddHashedIn
 refine wpAny_holding (wpAny_bind (wpAny_setState_of ho hd hf ?_))
 dsimp only
 rw [byScan_of hsc hb hel]
 refine wpIteT ?_
 unfold setAddByScan
 refine wpAny_bind ?_
 refine wpAny_bind (wpAny_rule ?_)
 refine wpAny_bind (wpAny_setScan_of hkey ho hd hf hel ?_)
 cases hr:List.findIdx? (fun e=>(intKind prog w).is k e.2) es.toList with
 | some j =>
  dsimp only
  obtain ⟨hj,hpj,_⟩:=List.findIdx?_eq_some_iff_getElem.mp hr
  have hSk:S k = true:=(hmem k).mpr ⟨es.toList[j],List.getElem_mem hj,hpj⟩
  refine wpAny_pure (wpAny_pure ?_)
  have e:s = { s with heap:=s.heap }:=by cases s; rfl
  have:=h s.heap (Heap.SameBut.refl a s.heap) ⟨o,es,ep,t,ho,hex,hd,hel,fun k'=>by
   rw [Bool.or_eq_true,decide_eq_true_eq,← hmem k']
   exact ⟨fun hk=>hk.elim id (fun e=>e ▸ hSk),.inl⟩,hb,hf,by rw [hSk]; exact hn,hl⟩
  rw [hSk] at this; rw [e]; exact this
 | none =>
  dsimp only
  have hSk:S k = false:=by
   cases hk:S k with
   | false=>rfl
   | true=>obtain ⟨e,he,hp⟩:=(hmem k).mp hk; have:=List.findIdx?_eq_none_iff.mp hr e he; rw [hp] at this; exact Bool.noConfusion this
  have hgw:∀ (b:Bool) {s₁:Shared} {Q':Unit -> Shared -> Prop},Q' () s₁ -> wpAny (model prog w) A (match b with | true=>rule "set.scan.the-table-gave-way" | false=>pure ()) Q' E s₁ :=
   fun b s₁ Q' hq=>by cases b <;> first | exact wpAny_pure hq | exact wpAny_rule hq
  have hperm:=layNew_perm t es ((intKind prog w).hash k) x
  have hfits:=layNew_fits t es ((intKind prog w).hash k) x
  have hled:=layNew_led t es ((intKind prog w).hash k) x
  generalize layNew t es ((intKind prog w).hash k) x = L at hperm hfits hled ⊢
  obtain ⟨es1,t1,wasDummy,gave⟩:=L
  dsimp only at hperm hfits hled ⊢
  rw [Array.toList_push] at hperm
  have hel1:ElemsOf (intKind prog w) es1.toList:=(hel.push hkey hsc).perm hperm
  have hmem1:∀ k',(S k' || decide (k' = k)) = true ↔ ∃ e ∈ es1.toList,(intKind prog w).is k' e.2 = true:=mem_push_iff hkey hmem hperm
  have hb1':es1.size < scanBound:=by rw [← Array.length_toList,hperm.length_eq,List.length_append,Array.length_toList]; simpa -iota using hb1
  refine wpAny_bind (hgw _ ?_)
  have hsz1:es1.size = n + 1:=by rw [← Array.length_toList,hperm.length_eq,List.length_append,Array.length_toList,hn]; rfl
  have hend:∀ h',Heap.SameBut a s.heap h' -> SetL prog w h' a (fun k'=>S k' || decide (k' = k)) es1.size -> Q true { s with heap:=h' }:=by
   intro h' hsb hS'; have:=h h' hsb; rw [hSk] at this; rw [hsz1] at hS'; exact this hS'
  have hl1:t1.led = true ∨ byText w = true:=by rw [hled]; exact hl
  split
  ·refine wpAny_bind ?_
   rw [hashByValue_scannable 8 hsc]
   refine wpAny_pure ?_
   refine addTail_led ?_ ho hex hd hel1 hmem1 hb1' ?_ ?_ ?_
   ·intro b s₁ Q' hq; cases b <;> first | exact wpAny_pure hq | exact wpAny_rule hq
   ·split
    ·exact hfits
    ·exact SetTable.fits_plain_off hfits
   ·split
    ·exact hl1
    ·exact hl1
   ·intro h' hsb hS'; dsimp only; exact wpAny_pure (hend h' hsb hS')
  ·refine wpAny_bind (wpAny_pure ?_)
   simp -iota only [↓reduceIte]
   refine addTail_led ?_ ho hex hd hel1 hmem1 hb1' hfits hl1 ?_
   ·intro b s₁ Q' hq; cases b <;> first | exact wpAny_pure hq | exact wpAny_rule hq
   ·intro h' hsb hS'; dsimp only; exact wpAny_pure (hend h' hsb hS')
theorem setAdd_call {a:Addr} {S:Int -> Bool} {n:Nat} {k:Int} {t:Tok} {Q:Value -> Shared -> Prop} (hS:SetL prog w s.heap a S n) (hroom:n + 1 < scanBound)
  (h:∀ h',Heap.SameBut a s.heap h' -> SetL prog w h' a (fun k'=>S k' || decide (k' = k)) (if S k then n else n + 1) -> Q .none { s with heap:=h',toks:=s.toks + 1 }) :
  wpAny (model prog w) A (call (.builtin "set.add") [.ref a,.int k t]) Q E s:=by
 refine wpAny_call_entry PySem.F.slot_set_add hS.of.typeIs PySem.F.entry_set_add ?_ (PySem.F.args_set_add_2 _ _)
 unfold Builtin.«set.add» Builtin.Frozenset.oneOther
 simp only [List.isEmpty_nil,bind_assoc]
 unfold Builtin.Frozenset.addrOf setAdd
 refine wpAny_bind (wpAny_pure ?_)
 try dsimp only
 refine wpAny_bind (wpAny_pure ?_)
 try dsimp only
 refine wpAny_bind ?_
 refine wpAny_holding ?_
 refine wpAny_bind ((intKind prog w).pyHash (intKind_is _ _ k t) ?_)
 refine addHashed_led (s:={ s with toks:=s.toks + 1 }) (intKind_is _ _ k t) rfl hS hroom fun h' hsb hS'=>?_
 show wpAny _ _ (ret Value.none) _ _ _
 exact wpAny_pure ⟨_,rfl,h h' hsb hS'⟩
end
noncomputable def RawD (h:Heap) (d:Addr) (es:Array DictEntry) (ep:Nat):Prop:=∃ o,h.get? d = some o ∧ o.ExactDict ∧ o.data = .dict es ep
section
variable {prog:Program} {w:World} {A:Around} {E:Value -> Shared -> Prop} {s:Shared}
theorem RawD.typeIs {d:Addr} {es:Array DictEntry} {ep:Nat} (x:RawD s.heap d es ep):s.TypeIs (.ref d) "dict":=(by obtain ⟨o,ho,hc,_⟩:=x; exact ⟨o,ho,hc.1⟩)
theorem iter_raw {d:Addr} {es:Array DictEntry} {ep:Nat} {Q:Value -> Shared -> Prop} (hd:(d == sysModules) = false) (hm:RawD s.heap d es ep)
  (hQ:Q (.ref s.heap.objs.size) { s with heap:=s.heap.push { cls:=.type "dict_keyiterator",data:=.fields #[.ref d,.int 0 0,.int es.size 0,.int ep 0] } }) :
  wpAny (model prog w) A (pyIter (.ref d)) Q E s:=by
 have hT:=hm.typeIs
 obtain ⟨o,ho,hc,hdat⟩:=hm
 refine wpAny_pyIter_slot hT PySem.F.slot_dict_iter (wpAny_call_entry PySem.F.slot_dict_iter hT PySem.F.entry_dict_iter ?_ (PySem.F.args_dict_iter_1 _))
 unfold Builtin.«dict.__iter__»
 refine wpAny_bind ?_
 unfold Builtin.Dict.dictSlotNone
 refine wpAny_bind (wpAny_notOrdered_dict hT ?_)
 show wpAny _ _ (pure (Value.ref d)) _ _ s
 refine wpAny_pure ?_
 show wpAny _ _ (Builtin.Dict.showsAll d >>= _) _ _ s
 unfold Builtin.Dict.showsAll
 rw [if_neg (by rw [hd]; exact Bool.false_ne_true)]
 refine wpAny_bind (wpAny_pure ?_)
 refine wpAny_bind (wpAny_dictEntries ho hdat ?_)
 refine wpAny_bind (wpAny_dictEpoch ho hdat ?_)
 refine wpAny_bind (wpAny_newObj_type (wpAny_pure ⟨_,rfl, "dict_keyiterator",_,⟨_,Heap.get?_push_size _ rfl,rfl⟩,PySem.F.slot_dict_keyiterator_next.lookup,?_⟩))
 simpa -iota [rawInt] using hQ
theorem next_raw {it d:Addr} {i ep:Nat} {es:Array DictEntry} {Q:Option Value -> Shared -> Prop} (hit:s.heap.IsKeyIter it d i es.size ep)
  (hm:RawD s.heap d es ep) (hlt':i < es.size)
  (hQ:∀ h',h'.IsKeyIter it d (i + 1) es.size ep -> Heap.SameBut it s.heap h' -> Q (some es[i].key) { s with heap:=h' }) :
  wpAny (model prog w) A (pyNext (.ref it)) Q E s:=by
 refine hG9 fun P_ b_=>?_
 obtain ⟨o,ho,hc,hd⟩:=id hit
 obtain ⟨od,hod,hcd,hdd⟩:=id hm
 refine b_ ?_; clear b_ P_
 unfold pyNext
 refine wpAny_bind (wpAny_attempt (wpAny_callSpecial?_slot (name:=Str.ofString "__next__") hit.typeIs PySem.F.slot_dict_keyiterator_next
  (wpAny_call_entry PySem.F.slot_dict_keyiterator_next hit.typeIs PySem.F.entry_dict_keyiterator_next ?_ (PySem.F.args_dict_keyiterator_next_1 _))))
 refine wpAny_bind (wpAny_pure ?_)
 refine wpAny_bind ?_
 refine wpAny_bind ?_
 first | refine wpAny_bind (wpAny_typeNameOfWhole_keyiter hit.typeIs (wpAny_pure ?_)) | refine wpAny_bind (wpAny_typeNameOf_keyiter hit.typeIs (wpAny_pure ?_))
 refine wpAny_bind (wpAny_fieldsOf ho hd ?_)
 have hown:Builtin.Dict_items.ownsTuple "dict_keyiterator" = false:=by decide
 simp -iota only [hown,Bool.false_eq_true,if_false]
 show wpAny _ _ (if (Value.ref d == Value.none) = true then _ else _) _ _ s
 rw [if_neg (show ¬ ((Value.ref d == Value.none) = true) from Bool.false_ne_true)]
 refine wpAny_bind (wpAny_pure ?_)
 refine wpAny_bind (wpAny_dictEntries hod hdd ?_)
 rw [if_neg (by simp -iota)]
 refine wpAny_bind (wpAny_pure ?_)
 refine wpAny_bind (wpAny_dictEpoch hod hdd ?_)
 rw [if_neg (by simp -iota)]
 refine wpAny_pure ?_
 simp only [show ¬ ((i:Int) < 0) from by omega,if_false,Int.toNat_natCast,Array.getElem?_eq_getElem hlt']
 refine wpAny_bind ?_
 first | refine wpAny_bind (wpAny_typeNameOfWhole_keyiter hit.typeIs (wpAny_pure ?_)) | refine wpAny_bind (wpAny_typeNameOf_keyiter hit.typeIs (wpAny_pure ?_))
 refine wpAny_bind (wpAny_isOneOf_keyiter hit.typeIs ?_)
 show wpAny _ _ (setField (.ref it) 1 (rawInt ((i:Int) + 1)) >>= _) _ _ s
 refine wpAny_bind (wpAny_setField ho hd (by simp -iota) ?_)
 have hit':(s.heap.update it (Obj.mapFields (·.setIfInBounds 1 (rawInt ((i:Int) + 1))))).IsKeyIter it d (i + 1) es.size ep :=
  ⟨_,Heap.get?_update_self _ ho (Obj.isFreed_of_fields (Obj.data_mapFields hd _)),(Obj.cls_mapFields ..).trans hc,by rw [Obj.data_mapFields hd]; simp -iota [rawInt]⟩
 refine wpAny_bind (wpAny_holding ?_)
 refine wpAny_bind (wpAny_isOneOf_keyiter (s:={ s with heap:=s.heap.update it (Obj.mapFields (·.setIfInBounds 1 (rawInt ((i:Int) + 1)))) }) hit'.typeIs ?_)
 show wpAny _ _ (pure es[i].key) _ _ _
 exact wpAny_pure (wpAny_pure ⟨_,rfl,wpAny_pure (hQ _ hit' (Heap.SameBut.update ..))⟩)
theorem end_raw {it d:Addr} {i ep:Nat} {es:Array DictEntry} {Q:Option Value -> Shared -> Prop} (hh:A.handled = none) (hit:s.heap.IsKeyIter it d i es.size ep)
  (hm:RawD s.heap d es ep) (hge:es.size ≤ i)
  (hQ:∀ h',Heap.ExtBut it s.heap h' -> Q none { s with heap:=h' }):wpAny (model prog w) A (pyNext (.ref it)) Q E s:=by
 refine hG9 fun P_ b_=>?_
 obtain ⟨o,ho,hc,hd⟩:=id hit
 obtain ⟨od,hod,hcd,hdd⟩:=id hm
 refine b_ ?_; clear b_ P_
 unfold pyNext
 refine wpAny_bind (wpAny_attempt (wpAny_callSpecial?_slot (name:=Str.ofString "__next__") hit.typeIs PySem.F.slot_dict_keyiterator_next
  (wpAny_call_entry PySem.F.slot_dict_keyiterator_next hit.typeIs PySem.F.entry_dict_keyiterator_next ?_ (PySem.F.args_dict_keyiterator_next_1 _))))
 refine wpAny_bind (wpAny_pure ?_)
 refine wpAny_bind ?_
 refine wpAny_bind ?_
 first | refine wpAny_bind (wpAny_typeNameOfWhole_keyiter hit.typeIs (wpAny_pure ?_)) | refine wpAny_bind (wpAny_typeNameOf_keyiter hit.typeIs (wpAny_pure ?_))
 refine wpAny_bind (wpAny_fieldsOf ho hd ?_)
 have hown:Builtin.Dict_items.ownsTuple "dict_keyiterator" = false:=by decide
 simp -iota only [hown,Bool.false_eq_true,if_false]
 show wpAny _ _ (if (Value.ref d == Value.none) = true then _ else _) _ _ s
 rw [if_neg (show ¬ ((Value.ref d == Value.none) = true) from Bool.false_ne_true)]
 refine wpAny_bind (wpAny_pure ?_)
 refine wpAny_bind (wpAny_dictEntries hod hdd ?_)
 rw [if_neg (by simp -iota)]
 refine wpAny_bind (wpAny_pure ?_)
 refine wpAny_bind (wpAny_dictEpoch hod hdd ?_)
 rw [if_neg (by simp -iota)]
 refine wpAny_pure ?_
 simp only [show ¬ ((i:Int) < 0) from by omega,if_false,Int.toNat_natCast,Array.getElem?_eq_none hge]
 refine wpAny_bind ?_
 first | refine wpAny_bind (wpAny_typeNameOfWhole_keyiter hit.typeIs (wpAny_pure ?_)) | refine wpAny_bind (wpAny_typeNameOf_keyiter hit.typeIs (wpAny_pure ?_))
 show wpAny _ _ (setField (.ref it) 0 .none >>= _) _ _ s
 refine wpAny_bind (wpAny_setField ho hd (by simp -iota) ?_)
 show wpAny _ _ (newExc (.type "StopIteration") [] >>= _) _ _ _
 refine wpAny_bind ?_
 simp -iota only [newExc,newTuple]
 refine wpAny_bind (wpAny_newObj_type ?_ (by size_fits))
 refine wpAny_bind (m:=firstArgMember _ _) (wpAny_of_eq (a:=Value.none) (by first | rfl | (simp -iota only [firstArgMember]; rfl)) ?_)
 refine wpAny_newObj_type ?_ (by size_fits)
 simp -iota only [raiseNew]
 refine wpAny_bind (wpAny_handled ?_)
 rw [show A.in1.handled = none from hh]
 refine wpAny_bind (wpAny_pure (wpAny_throw ?_))
 refine wpAny_bind (wpAny_isInstance (T:="StopIteration") (b:=true) ⟨_,Heap.get?_push_size _ rfl,rfl⟩ isSubtype_stop ?_)
 exact wpAny_pure (hQ _ (((Heap.SameBut.update ..).extBut.push _).push _))
theorem RawD.at {h h':Heap} {d:Addr} {es:Array DictEntry} {ep:Nat} (x:RawD h d es ep) (e:∀ o,h.get? d = some o -> h'.get? d = some o):RawD h' d es ep:=(by obtain ⟨o,ho,r⟩:=x; exact ⟨o,e _ ho,r⟩)
theorem walkKeys (hh:A.handled = none) (I d:Addr) (hne:d ≠ I) (es:Array DictEntry) (ep:Nat) :
  Walks prog w A I [I,d] [I] es.size (fun i v=>∃ e,es[i]? = some e ∧ v = e.key) (fun i h=>h.IsKeyIter I d i es.size ep ∧ RawD h d es ep) where
 sub:=fun b hb=>by simp -iota at hb; simp -iota [hb]
 frame:=fun _ _ _ st hk=>⟨st.1.at fun o e=>hk I (by simp -iota) o e,st.2.at fun o e=>hk d (by simp -iota) o e⟩
 item:=fun i s Q E hi st hQ=>by
  refine next_raw st.1 st.2 hi fun h' hit' hs'=>?_
  exact hQ _ h' s.toks ⟨_,Array.getElem?_eq_getElem hi,rfl⟩ ⟨hit',st.2.at fun o e=>hs'.extBut d o hne e⟩ fun b o hb e=>hs'.extBut b o (fun h=>hb (by simp -iota [h])) e
 done:=fun s Q E st hQ=>end_raw hh st.1 st.2 (Nat.le_refl _) fun h' he'=>hQ h' s.toks fun b o hb e=>he' b o (fun h=>hb (by simp -iota [h])) e
 self:=fun _ _ _ _ st hQ=>wpAny_pyIter_keyiter st.1 hQ
theorem srcKeys (d:Addr) (hd:(d == sysModules) = false) (es:Array DictEntry) (ep:Nat):KdlSrc prog w "dict" d d es.size (fun i v=>∃ e,es[i]? = some e ∧ v = e.key) (fun h=>RawD h d es ep) where
 type:=fun s h=>h.typeIs
 there:=fun h q1_=>by obtain ⟨o,ho,_⟩:=q1_; exact ⟨Heap.lt_size ho,Heap.lt_size ho⟩
 keep:=fun h h' x k=>x.at fun o e=>k d (.inl rfl) o e
 notList:=by decide
 notTuple:=by decide
 hint:=fun A E s Q x q=>kdl_hint_dict x.typeIs q
 iter:=fun A s hh x=>by
  have hlt:d < s.heap.objs.size:=(by obtain ⟨o,ho,_⟩:=x; exact Heap.lt_size ho)
  refine ⟨{ cls:=.type "dict_keyiterator",data:=.fields #[.ref d,.int 0 0,.int es.size 0,.int ep 0] },fun i h=>h.IsKeyIter s.heap.objs.size d i es.size ep ∧ RawD h d es ep,fun E Q q=>iter_raw hd x q,walkKeys hh _ d (Nat.ne_of_lt hlt) es ep,⟨_,Heap.get?_push_size _ rfl,rfl,rfl⟩,x.at fun o e=>Heap.get?_push_of_some _ e⟩
theorem iadd_src {T:String} {r d S:Addr} {n:Nat} {P:Nat -> Value -> Prop} {OK:Heap -> Prop} {R:Result -> Shared -> Prop} (K:KdlSrc prog w T r d n P OK) (hh:A.handled = none) (hok:OK s.heap) (hSr:S ≠ r) (hSd:S ≠ d) (hS:s.heap.get? S = some { cls:=.type "list",data:=.seq #[] 0 })
  (hR:∀ h' tk acc' c',(∀ b o,b ≠ S -> s.heap.get? b = some o -> h'.get? b = some o) -> h'.get? S = some { cls:=.type "list",dict:=none,data:=.seq acc' c',slots:=#[] } -> ItemsOf P acc' n -> R (.ok (.ret (.ref S))) { s with heap:=h',toks:=tk }) (hn:n ≤ sizeLine) :
  codeAny (model prog w) A (.builtin "list.__iadd__" ⟨[.ref S,.ref r],[]⟩) R s:=by
 refine codeAny_builtin PySem.F.entry_list_iadd ?_
 rw [Around.under_plainId PySem.F.plain_list_iadd _]
 show wpAny _ A.in1 (Builtin.List.listExtendWith (.ref S) (.ref r) (.ref S)) _ _ _
 exact kdl_extend K hh hok S hSr hSd _ _ hS hR hn
theorem collect_src {T:String} {r d:Addr} {n:Nat} {P:Nat -> Value -> Prop} {OK:Heap -> Prop} {Q:List Value -> Shared -> Prop} (K:KdlSrc prog w T r d n P OK) (hh:A.handled = none) (hok:OK s.heap) (hn:n ≤ sizeLine)
  (h:∀ h' tk acc,(∀ b o,s.heap.get? b = some o -> h'.get? b = some o) -> ItemsOf P acc n -> Q acc.toList { s with heap:=h',toks:=tk }):wpAny (model prog w) A (collect (.ref r)) Q E s:=by
 have hlt:=K.there _ hok
 unfold collect
 refine wpAny_bind (wpAny_runValue (codeAny_builtin PySem.F.entry_proto_collect ?_))
 rw [Around.under_plainId PySem.F.plain_proto_collect _]
 show wpAny _ A.in1 (newList [] >>= fun l=>again (.builtin "list.__iadd__" ⟨[l,.ref r],[]⟩)) _ _ s
 refine wpAny_bind (wpAny_newObj_type ?_)
 refine wpAny_pure ⟨plainId_quiet PySem.F.plain_list_iadd _,?_⟩
 have hS:(s.heap.push { cls:=.type "list",data:=.seq ([]:List Value).toArray }).get? s.heap.objs.size = some { cls:=.type "list",data:=.seq ([]:List Value).toArray }:=Heap.get?_push_size _ rfl
 refine iadd_src (s:={ s with heap:=s.heap.push { cls:=.type "list",data:=.seq ([]:List Value).toArray } }) K hh (K.keep _ _ hok fun b _ o e=>Heap.get?_push_of_some _ e) (Nat.ne_of_gt hlt.1) (Nat.ne_of_gt hlt.2) hS (fun h' tk acc' c' hk hS' hacc=>?_) hn
 show wpAny _ A (load s.heap.objs.size >>= _) _ _ _
 refine wpAny_bind (wpAny_load hS' ?_)
 exact wpAny_pure (h h' tk acc' (fun b o e=>hk b o (Nat.ne_of_lt (Heap.lt_size e)) (Heap.get?_push_of_some _ e)) hacc)
end
noncomputable def kasRun {α:Type} (lt:Nat -> Nat -> Bool):KasT α -> α
 | .ret a=>a
 | .ask i j k=>kasRun lt (k (lt i j))
noncomputable def kasAll {α:Type} (n:Nat) (Φ:α -> Prop):KasT α -> Prop
 | .ret a=>Φ a
 | .ask i j k=>i < n ∧ j < n ∧ ∀ b,kasAll n Φ (k b)
theorem kasAll_bind {α β:Type} {n:Nat} {Φ:α -> Prop} {Ψ:β -> Prop} {f:α -> KasT β} (t:KasT α) (h:kasAll n Φ t) (h2:∀ a,Φ a -> kasAll n Ψ (f a)):kasAll n Ψ (t.bind f):=by
 induction t with
 | ret a=>exact h2 a h
 | ask i j k ih=>exact ⟨h.1,h.2.1,fun b=>ih b (h.2.2 b)⟩
theorem kasAll_run {α:Type} {n:Nat} {Φ:α -> Prop} {lt:Nat -> Nat -> Bool} (t:KasT α) (h:kasAll n Φ t):Φ (kasRun lt t):=by
 induction t with
 | ret a=>exact h
 | ask i j k ih=>exact ih _ (h.2.2 _)
theorem kasWp_run {α:Type} {n:Nat} {Φ:α -> Prop} {cmp:Nat -> Nat -> (Bool -> Shared -> Prop) -> Shared -> Prop} {lt:Nat -> Nat -> Bool} {Inv:Shared -> Prop} {Q:α -> Shared -> Prop} (hc:∀ i j C s,i < n -> j < n -> Inv s -> (∀ s',Inv s' -> C (lt i j) s') -> cmp i j C s) (t:KasT α):∀ (s:Shared),kasAll n Φ t -> Inv s -> (∀ s',Inv s' -> Q (kasRun lt t) s') -> t.kasWp cmp Q s:=by
 induction t with
 | ret a=>exact fun s _ hi h=>h s hi
 | ask i j k ih=>exact fun s ha hi h=>hc i j _ s ha.1 ha.2.1 hi fun s' hi'=>ih _ s' (ha.2.2 _) hi' h
section
variable {n:Nat}
noncomputable def Gd (n:Nat) (p:Array Nat):Prop:=p.Perm (List.toArray (List.range n))
theorem Gd.lt {p:Array Nat} (h:Gd n p) (hn:0 < n) (i:Nat):p.getD i 0 < n:=by
 unfold Array.getD
 split
 ·rename_i hi
  have:p[i] ∈ p.toList:=by simp
  have:=(Array.perm_iff_toList_perm.mp h).mem_iff.mp this
  simpa using this
 ·exact hn
theorem Gd.rev {p:Array Nat} (h:Gd n p) (i j:Nat):Gd n (kas_rev p i j):=(mirror_perm _ _ _ _).trans h
theorem asc_all (hn:0 < n) (f:Nat):∀ (p:Array Nat) (k:Nat),Gd n p -> kasAll n (fun _=>True) (kas_asc p f k):=by
 induction f with
 | zero=>exact fun _ _ _=>trivial
 | succ f ih=>exact fun p k h=>⟨h.lt hn _,h.lt hn _,fun b=>by
   cases b with
   | true=>exact trivial
   | false=>exact ih p _ h⟩
theorem desc_all (hn:0 < n) (f:Nat):∀ (p:Array Nat) (k q:Nat),Gd n p -> kasAll n (fun r=>Gd n r.1) (kas_desc f p k q):=by
 induction f with
 | zero=>exact fun _ _ _ h=>h
 | succ f ih=>exact fun p k q h=>⟨h.lt hn _,h.lt hn _,fun b=>by
   cases b with
   | true =>
    show kasAll n _ (if q > 0 then _ else _)
    split
    ·exact ih _ _ _ (h.rev _ _)
    ·exact ih _ _ _ h
   | false =>
    refine ⟨h.lt hn _,h.lt hn _,fun b=>?_⟩
    cases b with
    | true=>exact h
    | false=>exact ih _ _ _ h⟩
theorem tail3_all (hn:0 < n) (k m:Nat) (p:Array Nat) (h:Gd n p):kasAll n (fun r=>Gd n r.2) (kas_tail3 k m p):=kasAll_bind _ (asc_all hn _ _ _ (h.rev _ _)) fun _ _=>h.rev _ _
theorem descPart_all (hn:0 < n) (k m:Nat) (p:Array Nat) (h:Gd n p):kasAll n (fun r=>Gd n r.2) (kas_descPart k m p):=by
 refine kasAll_bind _ (desc_all hn _ _ _ _ h) fun r hr=>?_
 split
 ·exact tail3_all hn _ _ _ (hr.rev _ _)
 ·exact tail3_all hn _ _ _ hr
theorem count_all (hn:0 < n) (m:Nat) (p:Array Nat) (h:Gd n p):kasAll n (fun r=>Gd n r.2) (kas_count m p):=by
 refine kasAll_bind _ (asc_all hn _ _ _ h) fun k _=>?_
 split
 ·exact h
 ·split
  ·refine ⟨h.lt hn _,h.lt hn _,fun b=>?_⟩
   cases b with
   | true=>exact h
   | false=>exact descPart_all hn _ _ _ (h.rev _ _)
  ·exact descPart_all hn _ _ _ h
theorem place_all (hn:0 < n) (p:Array Nat) (k:Nat) (h:Gd n p) (f:Nat):∀ (l r:Nat),kasAll n (fun _=>True) (kas_place p k f l r):=by
 induction f with
 | zero=>exact fun _ _=>trivial
 | succ f ih =>
  intro l r
  unfold kas_place
  split
  ·exact trivial
  ·refine ⟨h.lt hn _,h.lt hn _,fun b=>?_⟩
   cases b with
   | true=>exact ih _ _
   | false=>exact ih _ _
theorem bin_all (hn:0 < n) (f:Nat):∀ (p:Array Nat) (k:Nat),Gd n p -> kasAll n (Gd n) (kas_bin f p k):=by
 induction f with
 | zero=>exact fun _ _ h=>h
 | succ f ih=>exact fun p k h=>kasAll_bind _ (place_all hn p k h _ _ _) fun _ _=>ih _ _ ((bubble_perm _ _ _).trans h)
theorem sort_all (hn:0 < n):kasAll n (Gd n) (kas_sort n):=by
 refine kasAll_bind _ (count_all hn _ _ .rfl) fun r hr=>?_
 split
 ·exact bin_all hn _ _ _ hr
 ·exact hr
noncomputable def sortIdx (n:Nat) (lt:Nat -> Nat -> Bool):List Nat:=if n < 2 then List.range n else (kasRun lt (kas_sort n)).toList
theorem sortIdx_perm {lt:Nat -> Nat -> Bool} (n:Nat):(sortIdx n lt).Perm (List.range n):=by
 unfold sortIdx
 split
 ·exact .refl _
 ·exact Array.perm_iff_toList_perm.mp (kasAll_run _ (sort_all (by lia)))
end
noncomputable abbrev PI:=Int × Int
noncomputable def ltP (a b:PI):Bool:=decide (a.1 < b.1 ∨ (a.1 = b.1 ∧ a.2 < b.2))
noncomputable def ltAt (ps:List PI) (i j:Nat):Bool:=ltP (ps.getD i (0,0)) (ps.getD j (0,0))
noncomputable def sortP (ps:List PI):List PI:=(sortIdx ps.length (ltAt ps)).map fun i=>ps.getD i (0,0)
theorem sortP_perm (ps:List PI):(sortP ps).Perm ps:=by
 unfold sortP
 have:=(sortIdx_perm (lt:=ltAt ps) ps.length).map fun i=>ps.getD i (0,0)
 refine this.trans (.of_eq ?_)
 apply List.ext_getElem?
 intro i
 rw [List.getElem?_map]
 rcases Nat.lt_or_ge i ps.length with h | h
 ·rw [List.getElem?_range h,List.getElem?_eq_getElem h]
  simp [List.getD,h]
 ·rw [List.getElem?_eq_none (by simpa using h),List.getElem?_eq_none h]; rfl
noncomputable def noHeap:Heap:={ objs:=#[] }
noncomputable def PairAt (h:Heap) (v:Value) (p:PI):Prop:=∃ a o t u n,v = .ref a ∧ h.get? a = some o ∧ o.cls = .type "tuple" ∧ o.data = .seq #[.int p.1 t,.int p.2 u] n
noncomputable def PairsAt (h:Heap) (vs:List Value) (ps:List PI):Prop:=vs.length = ps.length ∧ ∀ (i:Nat) (v:Value) (p:PI),vs[i]? = some v -> ps[i]? = some p -> PairAt h v p
section
variable {prog:Program} {w:World} {A:Around} {E:Value -> Shared -> Prop} {s:Shared}
theorem ltPair {v u:Value} {p q:PI} (hv:PairAt s.heap v p) (hu:PairAt s.heap u q) {Q:Bool -> Shared -> Prop} (h:∀ tk,Q (ltP p q) { s with toks:=tk }):wpAny (model prog w) A (keyLt' (tuples' true) v u) Q NoE s:=by
 refine hG9 fun P_ b_=>?_
 obtain ⟨a,oa,t1,t2,n1,rfl,ha,_,da⟩:=hv
 obtain ⟨b,ob,t3,t4,n2,rfl,hb,_,db⟩:=hu
 refine b_ ?_; clear b_ P_
 refine kat_lt ha da hb db ?_
 show KatLex prog w A true _ Q [(.int p.1 t1,.int q.1 t3),(.int p.2 t2,.int q.2 t4)] 0 s
 refine kat_cons (wpAny_eqBool_int ?_)
 have h0:=h s.toks
 cases e1:(p.1 == q.1) with
 | true =>
  have e1:p.1 = q.1:=by simpa using e1
  refine kat_yes (kat_cons (wpAny_eqBool_int ?_))
  cases e2:(p.2 == q.2) with
  | true =>
   have e2:p.2 = q.2:=by simpa using e2
   refine kat_yes (kat_nil ?_)
   have:ltP p q = false:=by simp [ltP,e1,e2]
   rw [this] at h0
   exact h0
  | false =>
   refine kat_no (kat_one _ _ (PySem.P.lt_int ?_))
   have:ltP p q = decide (p.2 < q.2):=by simp [ltP,e1]
   rw [this] at h0
   exact h0
 | false =>
  have e1:p.1 ≠ q.1:=by simpa using e1
  refine kat_no (oneLt_int ?_)
  have:ltP p q = decide (p.1 < q.1):=by simp [ltP,e1]
  rw [this] at h0
  exact h0
theorem looksInt {M:Model} {h:Heap} {i:Int} {t:Tok}:Looks M h (typeOf (.int i t)) (.type "int"):=Looks.of_pure rfl
theorem tups_of {h:Heap} {vs:List Value}:∀ {ps:List PI},PairsAt h vs ps -> ∃ fs,KatTups h vs fs ∧ fs.length = vs.length ∧ ∀ v ∈ fs,∃ i t,v = .int i t:=by
 induction vs with
 | nil=>exact fun _=>⟨[],KatTups.nil,rfl,fun _ h=>by cases h⟩
 | cons v vs ih =>
  intro ps q
  obtain ⟨hl,hp⟩:=q
  cases ps with
  | nil=>cases hl
  | cons p ps =>
   obtain ⟨fs,h1,h2,h3⟩:=ih (ps:=ps) ⟨by simpa using hl,fun i u q e1 e2=>hp (i + 1) u q e1 e2⟩
   obtain ⟨a,o,t,u,n,rfl,ho,hc,hd⟩:=hp 0 v p rfl rfl
   refine ⟨.int p.1 t :: fs,KatTups.cons ho hc hd rfl h1,by rw [List.length_cons,List.length_cons,h2],fun v hv=>?_⟩
   rcases List.mem_cons.mp hv with rfl | hv
   ·exact ⟨_,_,rfl⟩
   ·exact h3 v hv
theorem allNews (h:Heap) (L D:Addr):∃ news:List (Addr × Obj),News noHeap L h news ∧ (∀ p ∈ news,p.1 ≠ D) ∧ ∀ a o,a ≠ L -> a ≠ D -> h.get? a = some o -> (a,o) ∈ news:=by
 refine ⟨(List.range h.objs.size).filterMap fun a=>if a = L ∨ a = D then none else (h.get? a).map fun o=>(a,o),fun p hp=>?_,fun p hp=>?_,fun a o h1 h2 h3=>?_⟩
 ·refine hG9 fun P_ b_=>?_
  obtain ⟨a,_,ha⟩:=List.mem_filterMap.mp hp
  split at ha
  ·exact none_some ha
  ·rename_i hn
   refine map_elim ha fun o ho z2_=>?_
   subst z2_
   refine b_ ?_; clear b_ P_
   refine ⟨ho,fun e=>hn (.inl e),?_⟩
   cases q:Heap.get? noHeap a with
   | none=>rfl
   | some z=>exact absurd (Heap.lt_size q) (Nat.not_lt_zero _)
 ·refine hG9 fun P_ b_=>?_
  obtain ⟨a,_,ha⟩:=List.mem_filterMap.mp hp
  split at ha
  ·exact none_some ha
  ·rename_i hn
   refine map_elim ha fun o ho z2_=>?_
   subst z2_
   refine b_ ?_; clear b_ P_
   exact fun e=>hn (.inr e)
 ·refine List.mem_filterMap.mpr ⟨a,List.mem_range.mpr (Heap.lt_size h3),?_⟩
  rw [if_neg (fun e=>e.elim h1 h2),h3]; rfl
theorem list_sort_pairs {D L:Addr} {n:Nat} {vs:List Value} {ps:List PI} {m:Str -> Option Value} (hm:s.heap.Ns L m) (ho:s.heap.get? D = some (seqObj "list" vs.toArray n)) (hDL:D ≠ L) (hp:PairsAt s.heap vs ps) (h2:2 ≤ vs.length) (h64:vs.length < 64) {P:PySem.Fin -> Shared -> Prop}
  (hL:∀ v a,v ∈ vs -> v = .ref a -> a ≠ L) (h:∀ h' tk c,h'.Ns L m -> (∀ b o,b ≠ L -> b ≠ D -> s.heap.get? b = some o -> h'.get? b = some o) -> h'.get? D = some (listOf (((sortIdx vs.length (ltAt ps)).map fun i=>vs.getD i Value.none).toArray) c) -> P (.done (.ret .none)) { s with heap:=h',toks:=tk }) :
  wpAny (model prog w) A (Builtin.«list.sort» ⟨[.ref D],[]⟩) P E s:=by
 obtain ⟨news,N,hnD,hall⟩:=allNews s.heap L D
 have F:Fr noHeap L s.heap m:=⟨hm,fun b o e=>absurd (Heap.lt_size e) (Nat.not_lt_zero _),Nat.zero_le _⟩
 have hD0:Heap.get? noHeap D = none:=by
  cases q:Heap.get? noHeap D with
  | none=>rfl
  | some z=>exact absurd (Heap.lt_size q) (Nat.not_lt_zero _)
 refine kat_list_sort F N ho hDL hD0 hnD h2 h64 fun e1 h' F' N'=>?_
 have old:∀ b o,b ≠ L -> b ≠ D -> s.heap.get? b = some o -> h'.get? b = some o:=fun b o h1 h2 e=>(N' _ (List.mem_cons_of_mem _ (hall b o h1 h2 e))).1
 have hpD:∀ v ∈ vs,∀ a o,v = .ref a -> s.heap.get? a = some o -> o.cls = .type "tuple" -> h'.get? a = some o:=fun v hv a o e e2 e3=>old a o (hL v a hv e) (fun q=>by
  subst q; obtain rfl:=Option.some.inj (ho.symm.trans e2); simp at e3) e2
 have hp':PairsAt h' vs ps:=⟨hp.1,fun i v p e e2=>by
  obtain ⟨a,o,t,u,n,q,ho,hc,hd⟩:=hp.2 i v p e e2
  exact ⟨a,o,t,u,n,q,hpD v (List.mem_of_getElem? e) a o q ho hc,hc,hd⟩⟩
 obtain ⟨fs,t1,t2,t3⟩:=tups_of hp'
 refine kat_kind (T:=.type "int") t1 (by lia) (fun v hv=>?_) (by rfl) ?_
 ·obtain ⟨i,t,rfl⟩:=t3 v hv
  exact looksInt
 ·rw [show (Value.type "int" != Value.type "tuple") = true from by rfl]
  have hc:∀ (i j:Nat) (C:Bool -> Shared -> Prop) (s':Shared),i < vs.length -> j < vs.length -> (∃ tk,s' = { s with heap:=h',toks:=tk }) -> (∀ s'',(∃ tk,s'' = { s with heap:=h',toks:=tk }) -> C (ltAt ps i j) s'') -> kas_ask prog w A (tuples' true) vs i j C s':=by
   rintro i j C s' hi hj ⟨tk,rfl⟩ hC
   have at_:∀ k,k < vs.length -> PairAt h' (vs.getD k Value.none) (ps.getD k (0,0)):=fun k hk=>by
    have hk2:k < ps.length:=by rw [← hp.1]; exact hk
    have e1:vs.getD k Value.none = vs[k]:=by simp [List.getD,hk]
    have e2:ps.getD k (0,0) = ps[k]:=by simp [List.getD,hk2]
    rw [e1,e2]
    exact hp'.2 k _ _ (List.getElem?_eq_getElem hk) (List.getElem?_eq_getElem hk2)
   exact ltPair (s:={ s with heap:=h',toks:=tk }) (at_ i hi) (at_ j hj) fun tk'=>hC _ ⟨tk',rfl⟩
  refine kasWp_run hc _ _ (sort_all (by exact Nat.le_of_lt ‹_›)) ⟨s.toks,rfl⟩ ?_
  rintro s' ⟨tk,rfl⟩
  have:(kasRun (ltAt ps) (kas_sort vs.length)).toList = sortIdx vs.length (ltAt ps):=by unfold sortIdx; rw [if_neg (by exact Nat.not_lt_of_le ‹_›)]
  rw [this]
  exact KasFin.intro F' N' (UpdF.head hnD) fun h3 c F3 N3=>h h3 tk c F3.ns (fun b o h1 h2 e=>(N3 _ (List.mem_cons_of_mem _ (hall b o h1 h2 e))).1) (N3 _ (List.mem_cons_self ..)).1
theorem list_sort_few {D:Addr} {n:Nat} {vs:List Value} (ho:s.heap.get? D = some (seqObj "list" vs.toArray n)) (h2:vs.length < 2) {P:PySem.Fin -> Shared -> Prop}
  (h:∀ h' c,(∀ b o,b ≠ D -> s.heap.get? b = some o -> h'.get? b = some o) -> h'.get? D = some (listOf vs.toArray c) -> P (.done (.ret .none)) { s with heap:=h' }) :
  wpAny (model prog w) A (Builtin.«list.sort» ⟨[.ref D],[]⟩) P E s:=by
 have s1:=Heap.SameBut.update s.heap D (Obj.mapSeq fun _=>(#[]:Array Value))
 obtain ⟨e1,ho1⟩:∃ e1,(s.heap.update D (Obj.mapSeq fun _=>(#[]:Array Value))).get? D = some (seqObj "list" #[] e1):=⟨_,get?_update_seq ho fun _=>#[]⟩
 rw [list_sort_plain]
 refine wpAny_bind (listItems_at ho rfl ?_)
 refine wpAny_bind (listUpdate_at ho rfl ?_ (by rw [List.size_toArray,sizeLine_eq]; lia) (Nat.zero_le _))
 refine wpAny_bind (seqEpoch_at ho1 rfl ?_)
 refine wpAny_bind (wpAny_newTuple ?_ (by show vs.length ≤ _; rw [sizeLine_eq]; lia))
 refine wpAny_bind (wpAny_newList ?_ (Nat.zero_le _))
 refine wpAny_holding ?_
 show wpAny (model prog w) A _ P E { s with heap:=((s.heap.update D (Obj.mapSeq fun _=>(#[]:Array Value))).push (seqObj "tuple" vs.toArray 0)).push (seqObj "list" #[] 0) }
 dsimp only
 have hn2:vs.toArray.size < 2:=by rw [List.size_toArray]; (assumption)
 rw [if_pos hn2,if_pos hn2]
 refine wpAny_bind (wpAny_pure ?_)
 refine wpAny_bind (wpAny_pure ?_)
 dsimp only
 have hout:(arrOf (SortSt.mk' general' (vs.toArray.zip vs.toArray) #[] 7 none)).map (·.2) = vs.toArray:=by
  show (vs.toArray.zip vs.toArray).map (·.2) = _
  apply Array.ext
  ·simp
  ·intro k h1 h2; simp
 rw [hout]
 have old:∀ b o,b ≠ D -> s.heap.get? b = some o -> (((s.heap.update D (Obj.mapSeq fun _=>(#[]:Array Value))).push (seqObj "tuple" vs.toArray 0)).push (seqObj "list" #[] 0)).get? b = some o:=fun b o hb e=>Heap.get?_push_of_some _ (Heap.get?_push_of_some _ (s1.extBut b o hb e))
 have ho3:(((s.heap.update D (Obj.mapSeq fun _=>(#[]:Array Value))).push (seqObj "tuple" vs.toArray 0)).push (seqObj "list" #[] 0)).get? D = some (seqObj "list" #[] e1):=Heap.get?_push_of_some _ (Heap.get?_push_of_some _ ho1)
 obtain ⟨c2,hc2⟩:∃ c2,((((s.heap.update D (Obj.mapSeq fun _=>(#[]:Array Value))).push (seqObj "tuple" vs.toArray 0)).push (seqObj "list" #[] 0)).update D (Obj.mapSeq fun _=>vs.toArray)).get? D = some (seqObj "list" vs.toArray c2):=⟨_,get?_update_seq ho3 fun _=>vs.toArray⟩
 have s2:=Heap.SameBut.update (((s.heap.update D (Obj.mapSeq fun _=>(#[]:Array Value))).push (seqObj "tuple" vs.toArray 0)).push (seqObj "list" #[] 0)) D (Obj.mapSeq fun _=>vs.toArray)
 refine wpAny_bind (seqEpoch_at ho3 rfl ?_)
 refine wpAny_bind (listUpdate_at ho3 rfl ?_ (Nat.zero_le _) (by rw [List.size_toArray,sizeLine_eq]; lia))
 show wpAny _ _ (do
  if (e1 != e1) = true then rule "list.sort.modified"; raiseError "ValueError" "list modified during sort"
  ret .none) _ _ _
 simp only [bne_self_eq_false,Bool.false_eq_true,if_false]
 exact wpAny_pure (h _ c2 (fun b o hb e=>s2.extBut b o hb (old b o hb e)) hc2)
end
section
variable {prog:Program} {w:World} {A:Around} {E:Value -> Shared -> Prop} {s:Shared}
theorem sorted_raw {x:Value} {Φ:List Value -> Prop} {Q:Value -> Shared -> Prop} (hlen:∀ vs,Φ vs -> vs.length < 64)
  (hcol:∀ (A:Around) (E:Value -> Shared -> Prop) (Q:List Value -> Shared -> Prop),A.handled = none -> (∀ vs h' tk,s.heap.StaysIn h' -> Φ vs -> Q vs { s with heap:=h',toks:=tk }) -> wpAny (model prog w) A (collect x) Q E s) (hh:A.handled = none)
  (hsort:∀ (A:Around) (vs:List Value) (h':Heap) (tk:Nat) (D:Addr) (P:PySem.Fin -> Shared -> Prop) (E:Value -> Shared -> Prop),s.heap.StaysIn h' -> s.heap.get? D = none -> h'.get? D = some (seqObj "list" vs.toArray 0) -> Φ vs -> (∀ s',Q (.ref D) s' -> P (.done (.ret .none)) s') -> wpAny (model prog w) A (Builtin.«list.sort» ⟨[.ref D],[]⟩) P E { s with heap:=h',toks:=tk }) :
  wpAny (model prog w) A (call (.builtin "sorted") [x]) Q E s:=by
 refine Calls.call_function_entry kind_sorted plain_sorted entry_sorted (args_sorted1 _) ?_
 unfold Builtin.«sorted»
 refine wpAny_bind (m:=checkCount "sorted" 1 1 _) (wpAny_pure ?_)
 refine wpAny_bind (hcol _ _ _ (by exact hh) fun vs h1 tk hk hΦ=>?_)
 have hl:=hlen vs hΦ
 refine wpAny_bind (wpAny_newList ?_ (by rw [sizeLine_eq]; lia))
 have hoL:(h1.push (seqObj "list" vs.toArray 0)).get? h1.objs.size = some (seqObj "list" vs.toArray 0):=Heap.get?_push_size _ rfl
 refine wpAny_bind (wpAny_holding (wpAny_call_entry slot_list_sort ⟨_,hoL,rfl⟩ entry_list_sort ?_ (args_list_sort _)))
 refine hsort _ vs _ tk _ _ _ (fun b o e=>Heap.get?_push_of_some _ (hk b o e)) ?_ hoL hΦ fun s' hq=>⟨_,rfl,wpAny_pure ⟨_,rfl,hq⟩⟩
 cases q:s.heap.get? h1.objs.size with
 | none=>rfl
 | some o=>exact absurd (Heap.lt_size (hk _ o q)) (Nat.lt_irrefl _)
end
section
variable {c:Cx} {d:Nat} {env:Env} {K F:Heap} {R:Adrs} {σ:St} {s:Shared}
theorem Sim.outNone (S:Sim c env K F R σ s) (ok:EnvOK env) {a:Addr} (h:s.heap.get? a = none):Out env K F R σ a:=by
 refine ⟨?_,?_,fun g n b o l e=>?_,fun e=>?_,fun x e=>?_⟩
 ·cases q:K.get? a with
  | none=>rfl
  | some o=>have:=S.st.hK a o q; rw [h] at this; exact none_some this
 ·cases q:F.get? a with
  | none=>rfl
  | some o=>have:=S.st.hF a o q; rw [h] at this; exact none_some this
 ·subst e
  obtain ⟨q,hq⟩:=(S.st.own _ _ _ _ l).2.2.some l.2.2
  rw [h] at hq; exact none_some hq
 ·subst e
  refine S.nsE fun m z1_ _=>?_
  obtain ⟨o,_,_,e,_⟩:=z1_
  rw [h] at e; exact none_some e
 ·obtain ⟨i,k | k⟩:=ok.cl x a e
  ·refine S.cellE i x k fun b q e1 z3_ _ _ _ _ _=>?_
   obtain ⟨o,e2,_⟩:=z3_
   obtain rfl:=Option.some.inj (e.symm.trans e1)
   rw [h] at e2; exact none_some e2
  ·refine S.freeE i x k fun b cv e1 z3_ _=>?_
   obtain ⟨o,e2,_⟩:=z3_
   obtain rfl:=Option.some.inj (e.symm.trans e1)
   have:=S.st.hK _ _ e2
   rw [h] at this; exact none_some this
theorem Sim.butL (S:Sim c env K F R σ s) {h':Heap} {tk:Nat} {m:Str -> Option Value} (hm:s.heap.Ns env.locals m) (hm':h'.Ns env.locals m) {wr:List Addr} (hw:∀ a ∈ wr,Out env K F R σ a) (hk:∀ b o,b ≠ env.locals -> b ∉ wr -> s.heap.get? b = some o -> h'.get? b = some o):Sim c env K F R σ { s with heap:=h',toks:=tk }:=by
 have k1:∀ a o,K.get? a = some o -> a ≠ env.locals:=fun a o e q=>by rw [q,S.lK] at e; exact none_some e
 have f1:∀ a o,F.get? a = some o -> a ≠ env.locals:=fun a o e q=>by rw [q,S.lF] at e; exact none_some e
 have k2:∀ a o,K.get? a = some o -> a ∉ wr:=fun a o e q=>by rw [(hw a q).k] at e; exact none_some e
 have f2:∀ a o,F.get? a = some o -> a ∉ wr:=fun a o e q=>by rw [(hw a q).f] at e; exact none_some e
 refine ⟨⟨(by obtain ⟨_,_,e⟩:=S.st.reach; exact ⟨h',tk,by rw [e]⟩),S.st.base,fun a o e=>hk a o (k1 a o e) (k2 a o e) (S.st.hK a o e),fun a o e=>hk a o (f1 a o e) (f2 a o e) (S.st.hF a o e),S.st.dis,S.st.len,S.st.apart,fun g n a o l=>?_⟩,S.lK,S.lF,S.lR,?_,fun i x e=>?_,S.free⟩
 ·skip
  refine S.st.ownE _ _ _ _ l fun y1 y2 y3=>?_
  exact ⟨y1,y2,y3.frame (Ext.refl K F _) fun q hq=>hk a q (S.lR _ _ _ _ l) (fun z=>(hw a z).l _ _ _ _ l rfl) hq⟩
 ·skip
  refine S.nsE fun m' hm2 z=>?_
  have:m' = m:=by
   obtain ⟨o,es,ep,e1,e2,e3,e4⟩:=hm2
   obtain ⟨o',es',ep',f1,f2,f3,f4⟩:=hm
   obtain rfl:=Option.some.inj (e1.symm.trans f1)
   rw [e2] at f2; cases f2
   funext x; rw [← e4,← f4]
  subst this
  exact ⟨m',hm',z⟩
 ·refine hG9 fun P_ b_=>?_
  refine S.cellE i x e fun a q e1 z3_ e3 e4 e5 r1 r2=>?_
  obtain ⟨o,e2,e2'⟩:=z3_
  refine b_ ?_; clear b_ P_
  exact ⟨a,q,e1,⟨o,hk _ _ e5 (fun z=>(hw a z).c x e1) e2,e2'⟩,e3,e4,e5,r1,r2⟩
noncomputable def two {α β:Type} (l:List α) (f:α -> α -> Option β):Option β:=match l with
 | [a,b]=>f a b
 | _=>none
theorem two_some {α β:Type} {l:List α} {f:α -> α -> Option β} {r:β} (h:two l f = some r):Ex2 fun a b=>l = [a,b] ∧ f a b = some r:=by
 cases l with
 | nil=>exact none_some h
 | cons a l=>cases l with
  | nil=>exact none_some h
  | cons b l=>cases l with
   | nil=>exact ⟨a,b,rfl,h⟩
   | cons=>exact none_some h
noncomputable def V.pair (v:V):Option PI:=v.key.bind fun l=>two l fun a b=>some (a,b)
theorem ints_map {vs:List V} {ks:List Int} (h:intsOf vs = some ks):vs = ks.map V.int:=by
 induction vs generalizing ks with
 | nil=>cases h; rfl
 | cons v vs ih =>
  cases v with
  | int i =>
   refine map_elim h fun l k e=>?_
   subst e
   exact congrArg (List.cons (V.int i)) (ih k)
  | _=>exact none_some h
theorem key_tup {v:V} {ks:List Int} (h:v.key = some ks):v = .tup (ks.map V.int):=by
 cases v with
 | tup vs=>exact congrArg V.tup (ints_map h)
 | _=>exact none_some h
noncomputable def pairsOf? : List V -> Option (List PI)
 | []=>some []
 | v :: vs=>do let p ← v.pair; let ps ← pairsOf? vs; pure (p :: ps)
noncomputable def pairV (p:PI):V:=.tup [.int p.1,.int p.2]
theorem pair_is {v:V} {p:PI} (h:v.pair = some p):v = pairV p:=by
 refine obind_elim h fun l h1 h2=>?_
 obtain ⟨a,b,rfl,h2⟩:=two_some h2
 cases h2
 exact key_tup h1
theorem pairsOf_map {vs:List V} {ps:List PI} (h:pairsOf? vs = some ps):vs = ps.map pairV:=by
 induction vs generalizing ps with
 | nil=>cases h; rfl
 | cons v vs ih =>
  refine obind_elim h fun p h1 h=>?_
  refine obind_elim h fun qs h2 h=>?_
  cases h
  rw [List.map_cons,← ih h2,pair_is h1]
theorem pairsOf_pairV (ps:List PI):pairsOf? (ps.map pairV) = some ps:=by
 induction ps with
 | nil=>rfl
 | cons p ps ih =>
  show ((some p).bind fun p=>(pairsOf? (ps.map pairV)).bind fun ps=>some (p :: ps)) = _
  rw [ih]; rfl
theorem pairAt_of {h:Heap} {cv:Value} {p:PI} (hF:F.StaysIn h) (x:VIn c F R cv (pairV p)):PairAt h cv p:=by
 obtain ⟨a,o,cvs,n,rfl,g1,g2,g3,r⟩:=x.inv
 obtain ⟨cx,cy,rfl,r1,r2⟩:=r.inv2
 obtain ⟨t,rfl⟩:=r1.inv
 obtain ⟨u,rfl⟩:=r2.inv
 exact ⟨_,_,_,_,_,rfl,hF _ _ g1,g2,g3⟩
theorem pairsAt_of {h:Heap} {cvs:List Value} {ps:List PI} (hF:F.StaysIn h) (x:VAll c F R cvs (ps.map pairV)):PairsAt h cvs ps:=by
 refine ⟨by rw [x.length,List.length_map],fun i v p e1 e2=>?_⟩
 obtain ⟨cv,e3,e4⟩:=x.get (k:=i) (v:=pairV p) (by rw [List.getElem?_map,e2]; rfl)
 obtain rfl:=Option.some.inj (e1.symm.trans e3)
 exact pairAt_of hF e4
theorem VAll.of {cvs:List Value} {vs:List V} (hl:cvs.length = vs.length) (h:∀ (i:Nat) (cv:Value) (v:V),cvs[i]? = some cv -> vs[i]? = some v -> VIn c F R cv v):VAll c F R cvs vs:=by
 induction cvs generalizing vs with
 | nil=>cases vs with
  | nil=>exact .nil
  | cons v vs=>cases hl
 | cons cv cvs ih=>cases vs with
  | nil=>cases hl
  | cons v vs=>exact .cons (h 0 cv v rfl rfl) (ih (by simpa using hl) fun i a b e1 e2=>h (i + 1) a b e1 e2)
theorem sorted_all {cvs:List Value} {ps:List PI} (h:VAll c F R cvs (ps.map pairV)):VAll c F R ((sortIdx cvs.length (ltAt ps)).map fun i=>cvs.getD i Value.none) ((sortP ps).map pairV):=by
 have hl:cvs.length = ps.length:=by rw [h.length,List.length_map]
 unfold sortP
 rw [hl,List.map_map]
 refine VAll.of (by simp) fun i cv v e1 e2=>?_
 rw [List.getElem?_map] at e1 e2
 refine map_elim e1 fun k hk z2_=>?_
 subst z2_
 rw [hk] at e2
 cases e2
 have hlt:k < ps.length:=by
  have:=(sortIdx_perm (lt:=ltAt ps) ps.length).mem_iff.mp (List.mem_of_getElem? hk)
  simpa using this
 obtain ⟨cv,e3,e4⟩:=h.get (k:=k) (v:=pairV ps[k]) (by rw [List.getElem?_map,List.getElem?_eq_getElem hlt]; rfl)
 have h1:cvs.getD k Value.none = cv:=by simp [List.getD,e3]
 have h2:ps.getD k (0,0) = ps[k]:=by simp [List.getD,hlt]
 show VIn c F R (cvs.getD k Value.none) (pairV (ps.getD k (0,0)))
 rw [h1,h2]; exact e4
theorem Sim.newFrozen (S:Sim c env K F R σ s) {D:Addr} (O:Out env K F R σ D) {cvs:List Value} {n:Nat} {vs:List V} (g:s.heap.get? D = some (seqO "list" cvs n)) (V1:VAll c F R cvs vs):∃ F',And3 (Ext K F R F' R) (Sim c env K F' R σ s) (VIn c F' R (.ref D) (.lst vs)):=by
 obtain ⟨F',X,y,S',_⟩:=S.freeze (fun a=>a == D) fun a ha=>by
  have ha:a = D:=by simpa using ha
  subst ha
  exact ⟨O.k,fun g n o l=>O.l _ _ _ _ l rfl,O.L,O.c⟩
 exact ⟨F',X,S',.lst ((y D (by simp)).trans g) (V1.ext X)⟩
theorem sorted_pairs (S:Sim c env K F R σ s) (ok:EnvOK env) {A:Around} (hh:A.handled = none) {x:Value} {ps:List PI} (h64:ps.length < 64)
  (hcol:∀ (A:Around) (E:Value -> Shared -> Prop) (Q:List Value -> Shared -> Prop),A.handled = none -> (∀ vs h' tk,s.heap.StaysIn h' -> VAll c F R vs (ps.map pairV) -> Q vs { s with heap:=h',toks:=tk }) -> wpAny (model c.prog c.w) A (collect x) Q E s)
  {Q:Value -> Shared -> Prop} {E:Value -> Shared -> Prop} (q:∀ cv F' s',Ext K F R F' R -> Sim c env K F' R σ s' -> VIn c F' R cv (.lst ((sortP ps).map pairV)) -> Q cv s'):wpAny (model c.prog c.w) A (call (.builtin "sorted") [x]) Q E s:=by
 refine sorted_raw (Φ:=fun vs=>VAll c F R vs (ps.map pairV)) (fun vs h=>by rw [h.length,List.length_map]; exact h64) hcol hh fun A vs h' tk D P E hk hD hDg hv hP=>?_
 have O:=S.outNone ok hD
 have S1:=S.up (tk:=tk) hk
 have hl:vs.length = ps.length:=by rw [hv.length,List.length_map]
 have fin:∀ (h2:Heap) (tk2:Nat) (cvs:List Value) (n:Nat),Sim c env K F R σ { s with heap:=h2,toks:=tk2 } -> h2.get? D = some (seqO "list" cvs n) -> VAll c F R cvs ((sortP ps).map pairV) -> P (.done (.ret .none)) { s with heap:=h2,toks:=tk2 }:=fun h2 tk2 cvs n S2 g2 v2=>by
  obtain ⟨F',X',S',V'⟩:=S2.newFrozen O g2 v2
  exact hP _ (q _ F' _ X' S' V')
 rcases Nat.lt_or_ge vs.length 2 with h2 | h2
 ·refine list_sort_few (s:={ s with heap:=h',toks:=tk }) hDg h2 fun h3 cc hk3 hD3=>fin h3 tk vs cc ?_ hD3 ?_
  ·exact S1.buts (tk:=tk) (h':=h3) (wr:=[D]) ok (fun a ha=>by rw [List.mem_singleton.mp ha]; exact O) fun b o hb e=>hk3 b o (fun z=>hb (List.mem_singleton.mpr z)) e
  ·have:=sorted_all hv
   rw [show sortIdx vs.length (ltAt ps) = List.range vs.length by unfold sortIdx; rw [if_pos h2]] at this
   have e:((List.range vs.length).map fun i=>vs.getD i Value.none) = vs:=by
    apply List.ext_getElem?
    intro i
    rw [List.getElem?_map]
    rcases Nat.lt_or_ge i vs.length with h | h
    ·rw [List.getElem?_range h,List.getElem?_eq_getElem h]; simp [List.getD,h]
    ·rw [List.getElem?_eq_none (by simpa using h),List.getElem?_eq_none h]; rfl
   rw [e] at this
   exact this
 ·refine S1.nsE fun m hm _=>?_
  have hp:PairsAt h' vs ps:=pairsAt_of S1.st.hF hv
  refine list_sort_pairs (s:={ s with heap:=h',toks:=tk }) hm hDg O.L hp h2 (by exact nF ‹_› ‹_› (by decide)) (fun v a hv' e=>?_) fun h3 tk3 cc hm3 hk3 hD3=>fin h3 tk3 _ cc ?_ hD3 (sorted_all hv)
  ·obtain ⟨i,hi⟩:=List.mem_iff_getElem?.mp hv'
   have hlt:i < ps.length:=by rw [← hl]; exact (List.getElem?_eq_some_iff.mp hi).1
   obtain ⟨cv,e3,e4⟩:=hv.get (k:=i) (v:=pairV ps[i]) (by rw [List.getElem?_map,List.getElem?_eq_getElem hlt]; rfl)
   obtain rfl:=Option.some.inj (hi.symm.trans e3)
   subst e
   obtain ⟨b,o,dvs,n,q,g1,g2,g3,r⟩:=e4.inv
   cases q
   intro z
   subst z
   rw [S.lF] at g1; exact none_some g1
  ·exact S1.butL (wr:=[D]) hm hm3 (fun a ha=>by rw [List.mem_singleton.mp ha]; exact O) fun b o h1 h2 e=>hk3 b o h1 (fun z=>h2 (List.mem_singleton.mpr z)) e
end
noncomputable def keysP:List (List Int × V) -> Option (List PI)
 | []=>some []
 | (k,_) :: es=>two k fun a b=>(keysP es).map ((a,b) :: ·)
noncomputable def O.srcP (o:O):Option (List PI):=O.casesOn o none pairsOf? (fun _=>none) keysP (fun _=>none) fun _=>none
noncomputable def srcP (σ:St) (v:V):Option (List PI):=(v.view σ).bind O.srcP
noncomputable def mSorted (m:AM V):AM V:=do
 let v ← m
 fun σ=>(srcP σ v).bind fun ps=>if ps.length < 64 then some (.lst ((sortP ps).map pairV),σ) else none
section
variable {c:Cx} {d:Nat} {env:Env} {K F:Heap} {R:Adrs} {σ:St} {s:Shared}
theorem key_pair {k:List Int} {a:Addr} {x y:Int} (h:c.tk.is F k a) (e:k = [x,y]):VIn c F R (.ref a) (pairV (x,y)):=by
 subst e
 refine hG9 fun P_ b_=>?_
 obtain ⟨o,items,n,ho,hc,hd,hi⟩:=h
 refine b_ ?_; clear b_ P_
 generalize hl:items.toList = l at hi
 refine hG9 fun P_ b_=>?_
 cases hi with
 | cons h1 hr =>
  cases hr with
  | cons h2 hr =>
   cases hr
   obtain ⟨t,rfl⟩:=Value.isInt_shape h1
   obtain ⟨u,rfl⟩:=Value.isInt_shape h2
   refine b_ ?_; clear b_ P_
   refine .tup ho hc (cvs:=[.int x t,.int y u]) (n:=n) ?_ (.cons (.int _ _) (.cons (.int _ _) .nil))
   rw [hd,← hl]
theorem keys_pairs {xs:List (List Int × Addr × Value)} {es:List (List Int × V)} {ps:List PI} (t:TAll c F R xs es) (hk:∀ x ∈ xs,c.tk.is F x.1 x.2.1) (h:keysP es = some ps):VAll c F R (xs.map fun x=>Value.ref x.2.1) (ps.map pairV):=by
 induction t using TAll.ind generalizing ps with
 | n=>cases h; exact .nil
 | @k k a cv xs v es h1 hr ih =>
  obtain ⟨a1,a2,rfl,h⟩:=two_some h
  refine map_elim h fun qs h2 z2_=>?_
  subst z2_
  exact .cons (key_pair (hk _ List.mem_cons_self) rfl) (ih (fun x hx=>hk x (List.mem_cons_of_mem _ hx)) h2)
set_option tactic.hygienic true in
theorem src_collect (G:Glo c) (S:Sim c env K F R σ s) {cv:Value} {v:V} {ps:List PI} (hv:VIn c F R cv v) (h:srcP σ v = some ps) (h64:ps.length < 64) (A:Around) (E:Value -> Shared -> Prop) (Q:List Value -> Shared -> Prop) (hh:A.handled = none)
  (q:∀ vs h' tk,s.heap.StaysIn h' -> VAll c F R vs (ps.map pairV) -> Q vs { s with heap:=h',toks:=tk }):wpAny (model c.prog c.w) A (collect cv) Q E s:=by
 refine obind_elim h fun o hvw h=>?_
 cases o with
 | list vs =>
  refine view_inE S hv hvw fun a z1_ z2_ _=>?_
  subst z1_
  obtain ⟨cvs,n,g1,g2⟩:=z2_
  have e:=pairsOf_map h
  subst e
  have hl:cvs.length = ps.length:=by rw [g2.length,List.length_map]
  refine collect_list (vs:=cvs) ⟨_,g1,rfl,n,rfl⟩ ?_ (by rw [sizeLine_eq]; lia)
  refine q cvs _ s.toks (fun b o e=>?_) g2
  exact (Heap.get?_update_other _ _ (Nat.ne_of_gt (Heap.lt_size e))).trans (Heap.get?_push_of_some _ e)
 | dctT es =>
  refine view_inE S hv hvw fun a z1_ z2_ hK=>?_
  subst z1_
  obtain ⟨xs,o,des,ep,h1,h2,h3,h4,h5,h6,h7⟩:=z2_
  have hv2:=keys_pairs h7 h5 h
  have hsz:des.size = xs.length:=by rw [← Array.length_toList,h4,List.length_map]
  have hl:xs.length = ps.length:=by have:=hv2.length; simpa using this
  refine collect_src (srcKeys a (S.sysMods G.sys hK) des ep) hh ⟨o,h1,h2,h3⟩ (by rw [sizeLine_eq]; lia) fun h' tk acc hk hacc=>q _ h' tk hk ?_
  have:acc.toList = xs.map fun x=>Value.ref x.2.1:=by
   apply List.ext_getElem?
   intro i
   rw [Array.getElem?_toList,List.getElem?_map]
   rcases Nat.lt_or_ge i acc.size with hi | hi
   ·rw [Array.getElem?_eq_getElem hi]
    obtain ⟨e,he,hv⟩:=hacc.2 i _ (Array.getElem?_eq_getElem hi)
    have:des.toList[i]? = some e:=by rw [Array.getElem?_toList]; exact he
    rw [h4,List.getElem?_map] at this
    refine map_elim this fun x hx z2_=>?_
    subst z2_
    rw [hx,hv]; rfl
   ·rw [Array.getElem?_eq_none hi,List.getElem?_eq_none (by rw [← hsz,← hacc.1]; exact hi)]; rfl
  rw [this]; exact hv2
 | _=>exact none_some h
set_option tactic.hygienic true in
theorem rSorted (G:Glo c) (ok:EnvOK env) {i:Nat} {x:Str} {p pos:Pos} {e:PySem.Expr} {m:AM V} (hi:env.scope.names[i]? = some (x,.globalImplicit)) (hn:c.mg x = none) (hv:c.mb x = some (.builtin "sorted")) (h1:RX c d env pos [e] [m])
  (hs:(backTo pos (starEach [e] env)).any (·.1) = false:=by rfl) (hs2:(backTo pos (starEach [e] env)).head? = some (false,eval e env):=by rfl):RE c d env (eval (.Call (.Name x p) [e] [] pos) env) (mSorted m):=by
 refine ⟨fun A gA K F R σ s S v σ' h=>?_⟩
 refine hG9 fun P_ b_=>?_
 revert h
 refine AM.bind_elim fun u σ1 e1 h=>?_
 refine obind_elim h fun ps hps h=>some_ifE h fun h64 h=>?_
 obtain ⟨rfl,rfl⟩:=Prod.mk.inj h
 refine b_ ?_; clear b_ P_
 refine callB1 G ok hi hn hv h1 hs hs2 gA S e1 fun cv F1 R1 s1 X1 S1 a1=>?_
 exact sorted_pairs S1 ok gA.1 h64 (src_collect G S1 a1 hps h64) fun cv F' s' X' S' V'=>⟨F',R1,X1.trans X',S',V'⟩
end
section
variable {prog:Program} {w:World} {A:Around} {E:Value -> Shared -> Prop} {s:Shared}
noncomputable abbrev setFresh (w:World):Obj:={ cls:=.type "set",dict:=none,data:=.set #[] 0 (.fresh 0 0 (!byText w)) }
theorem code_set_newL (rest:List Value) (hc:checkBuiltinCall "set.__new__" ⟨.type "set" :: rest,[]⟩ = pure ()) {Q₁:Value -> Shared -> Prop}
  (h:Q₁ (.ref s.heap.objs.size) { s with heap:=s.heap.push (setFresh w) }) :
  codeAny (model prog w) A (.call (.builtin "set.__new__") ⟨.type "set" :: rest,[]⟩) (wants Q₁ E) s:=by
 refine codeAny_of_tree ?_
 show wpAny _ A.in1 (do checkBuiltinCall "set.__new__" ⟨.type "set" :: rest,[]⟩; again (.builtin "set.__new__" ⟨.type "set" :: rest,[]⟩)) _ _ s
 refine wpAny_bind (wpAny_of_eq hc (wpAny_pure ⟨plainId_quiet PySem.F.plain_set_new _,codeAny_builtin PySem.F.entry_set_new ?_⟩))
 rw [Around.under_plainId PySem.F.plain_set_new _]
 unfold Builtin.«set.__new__» Builtin.Frozenset.newClass
 have hsub:=sub_set_self
 obtain ⟨hp,g,d,tk,os⟩:=s
 dsimp only
 wp_walk
 refine wpAny_askSetting (wpAny_pure ?_)
 dsimp only
 simp only [newObj]
 refine wpAny_bind (wpAny_alloc (wpAny_pure ?_))
 exact wpAny_pure h
theorem SetL.fresh {h:Heap} {a:Addr} (e:h.get? a = some (setFresh w)):SetL prog w h a (fun _=>false) 0:=by
 refine hG9 fun P_ b_=>?_
 obtain ⟨o,es,ep,t,h1,h2,h3,h4,h5,h6,h7,h8⟩:=(setObjOf_fresh (knd:=intKind prog w) (!byText w)).setOf e (by unfold scanBound; (exact Nat.succ_pos _))
 rw [e] at h1; cases h1
 cases h3
 refine b_ ?_; clear b_ P_
 refine ⟨_,_,_,_,e,h2,rfl,h4,h5,h6,h7,h8,?_⟩
 cases hb:byText w with
 | true=>exact .inr rfl
 | false=>exact .inl rfl
theorem set_loopJ {R:Result -> Shared -> Prop} {I S:Addr} {fp wr:List Addr} {n:Nat} {P:Nat -> Value -> Prop} {St:Nat -> Heap -> Prop} (W:Walks prog w A.in1 I fp wr n P St) (hSf:S ∉ fp) {J:Nat -> Heap -> Prop} (hJ:∀ i h h',J i h -> (∀ o,h.get? S = some o -> h'.get? S = some o) -> J i h')
  (step:∀ (A:Around) (E:Value -> Shared -> Prop) i v (s:Shared) (Q:Bool -> Shared -> Prop),i < n -> P i v -> J i s.heap -> (∀ b h' tk,Heap.SameBut S s.heap h' -> J (i + 1) h' -> Q b { s with heap:=h',toks:=tk }) -> wpAny (model prog w) A (setAdd S v) Q E s) :
  ∀ (k i:Nat) (s:Shared),n - i = k -> i ≤ n -> St i s.heap -> J i s.heap ->
   (∀ h' tk,(∀ b o,b ≠ S -> b ∉ wr -> s.heap.get? b = some o -> h'.get? b = some o) -> J n h' -> R (.ok (.ret .none)) { s with heap:=h',toks:=tk }) ->
   codeAny (model prog w) A (.builtin "set.update.loop" ⟨[.ref S,.ref I],[]⟩) R s:=by
 have hSw:S ∉ wr:=fun h=>hSf (W.sub _ h)
 intro k
 induction k with
 | zero =>
  intro i s hk hi hst hS hR
  have hin:i = n:=by exact uA ‹_› ‹_›
  subst hin
  refine codeAny_builtin PyProof.Rows.F.entry_set_update_loop ?_
  rw [Around.under_plainId PyProof.Rows.F.plain_set_update_loop _]
  show wpAny _ A.in1 (pyNext (.ref I) >>= _) _ _ s
  refine wpAny_bind (W.done s _ _ hst fun h' tk hk'=>?_)
  show wpAny _ A.in1 (ret Value.none) _ _ _
  exact wpAny_pure (hR h' tk (fun b o _ hb e=>hk' b o hb e) (hJ _ _ _ hS fun o e=>hk' S o hSw e))
 | succ k ih =>
  intro i s hk hi hst hS hR
  have hlt:i < n:=by exact uB ‹_›
  refine codeAny_builtin PyProof.Rows.F.entry_set_update_loop ?_
  rw [Around.under_plainId PyProof.Rows.F.plain_set_update_loop _]
  show wpAny _ A.in1 (pyNext (.ref I) >>= _) _ _ s
  refine wpAny_bind (W.item i s _ _ hlt hst fun v h' tk hP hst' hk'=>?_)
  show wpAny _ A.in1 (holding [v] (setAdd S v) >>= _) _ _ _
  refine wpAny_bind (wpAny_holding ?_)
  refine step _ _ i v _ _ hlt hP (hJ _ _ _ hS fun o e=>hk' S o hSw e) fun b h2 tk2 hsb hJ2=>?_
  refine wpAny_pure ⟨plainId_quiet PyProof.Rows.F.plain_set_update_loop _,ih (i + 1) _ (by exact uC ‹_›) hlt (W.frame _ _ _ hst' fun b hb o e=>?_) hJ2 fun h3 tk3 hk3 hJ3=>?_⟩
  ·exact hsb.extBut b o (fun z=>hSf (z ▸ hb)) e
  ·exact hR h3 tk3 (fun b o hb hbw e=>hk3 b o hb hbw (hsb.extBut b o hb (hk' b o hbw e))) hJ3
structure SetSrc (prog:Program) (w:World) (T:String) (r:Addr) (n:Nat) (P:Nat -> Value -> Prop) (OK:Heap -> Prop):Prop where
 type:∀ s:Shared,OK s.heap -> s.TypeIs (.ref r) T
 there:∀ h:Heap,OK h -> r < h.objs.size
 keep:∀ h h':Heap,OK h -> (∀ o,h.get? r = some o -> h'.get? r = some o) -> OK h'
 notSet:isSubtype (.type T) (.type "set") = pure false
 notFrozen:isSubtype (.type T) (.type "frozenset") = pure false
 notDict:(Value.type T == Value.type "dict") = false
 iter:∀ (A:Around) (s:Shared),A.handled = none -> OK s.heap -> Ex2 fun (oI:Obj) (St:Nat -> Heap -> Prop)=>And3 (∀ (A':Around) (E:Value -> Shared -> Prop) (Q:Value -> Shared -> Prop),Q (.ref s.heap.objs.size) { s with heap:=s.heap.push oI } -> wpAny (model prog w) A' (pyIter (.ref r)) Q E s) (Walks prog w A s.heap.objs.size [s.heap.objs.size,r] [s.heap.objs.size] n P St) (St 0 (s.heap.push oI))
theorem call_setJ {T:String} {r:Addr} {n:Nat} {P:Nat -> Value -> Prop} {OK:Heap -> Prop} (K:SetSrc prog w T r n P OK) (hh:A.handled = none) (hok:OK s.heap) {J:Nat -> Heap -> Prop} (hJ:∀ i h h',J i h -> (∀ o,h.get? s.heap.objs.size = some o -> h'.get? s.heap.objs.size = some o) -> J i h')
  (h0:∀ h,h.get? s.heap.objs.size = some (setFresh w) -> J 0 h)
  (step:∀ (A:Around) (E:Value -> Shared -> Prop) i v (s':Shared) (Q:Bool -> Shared -> Prop),i < n -> P i v -> J i s'.heap -> (∀ b h' tk,Heap.SameBut s.heap.objs.size s'.heap h' -> J (i + 1) h' -> Q b { s' with heap:=h',toks:=tk }) -> wpAny (model prog w) A (setAdd s.heap.objs.size v) Q E s')
  {Q:Value -> Shared -> Prop} (h:∀ (h':Heap) (tk:Nat),J n h' -> (∀ b o,s.heap.get? b = some o -> h'.get? b = some o) -> Q (.ref s.heap.objs.size) { s with heap:=h',toks:=tk }) :
  wpAny (model prog w) A (call (.type "set") [.ref r]) Q E s:=by
 obtain ⟨c,tl,hmro⟩:=PySem.F.called_set.mro
 have hmade:=PySem.F.called_set.made
 have hsub:=PySem.F.called_set.sub
 refine wpAny_call (codeAny_of_tree ?_)
 show wpAny _ _ (callAny (.type "set") _) _ _ _
 refine wpAny_pure ⟨Code.quiet_builtin _ (by decide +kernel),codeAny_builtin PySem.F.entry_type_call ?_⟩
 rw [Around.under_plain (weight_type_call_type "set" [.ref r] []) rfl]
 have h1:=PySem.F.called_set.notType
 have h2:=PySem.F.called_set.canCreate
 have hct:=PySem.F.typeCall_set_1 (.ref r)
 repeat (any_goals (first | assumption | wp_step))
 refine codeAny_mono (code_set_newL [.ref r] (PySem.F.newCall_set_1 _) (E:=E) (Q₁:=fun obj s₁=>obj = .ref s.heap.objs.size ∧ s₁ = { s with heap:=s.heap.push (setFresh w) }) ⟨rfl,rfl⟩) fun r1 s₁ hr=>?_
 cases r1 with
 | error e=>exact hr
 | ok fl =>
  cases fl with
  | ret obj =>
   obtain ⟨rfl,rfl⟩:=hr
   have hS:(s.heap.push (setFresh w)).get? s.heap.objs.size = some (setFresh w):=Heap.get?_push_size _ rfl
   have hT:Shared.TypeIs { s with heap:=s.heap.push (setFresh w) } (.ref s.heap.objs.size) "set":=⟨_,hS,rfl⟩
   have hli:=PySem.F.called_set.init.lookup
   have hbi:=PySem.F.called_set.init.bind (.ref s.heap.objs.size)
   repeat (any_goals (first | assumption | wp_step))
   refine codeAny_mono (codeAny_call_builtin (R:=wants (fun r s₂=>r = .none ∧ Ex2 fun h' tk=>And3 (s₂ = { s with heap:=h',toks:=tk }) (J n h') (∀ b o,s.heap.get? b = some o -> h'.get? b = some o)) E) PySem.F.called_set.init.plain PySem.F.entry_set_init (check_set_init_1 hT ?_)) fun r₂ s₂ hr₂=>?_
   ·have hok1:OK (s.heap.push (setFresh w)):=K.keep _ _ hok fun o e=>Heap.get?_push_of_some _ e
    have hTr:Shared.TypeIs { s with heap:=s.heap.push (setFresh w) } (.ref r) T:=K.type { s with heap:=s.heap.push (setFresh w) } hok1
    have hsls:=K.notSet
    have hslf:=K.notFrozen
    have hne:=K.notDict
    obtain ⟨oI,St,hit,W,st⟩:=K.iter A.in1.in1.in1 { s with heap:=s.heap.push (setFresh w) } (by simp [hh]) hok1
    obtain ⟨or,hor,hcr⟩:=hTr
    obtain ⟨oc,od,odt,osl⟩:=or
    simp only at hcr
    subst hcr
    unfold Builtin.«set.__init__» noKeywords Builtin.Frozenset.updateFrom
    generalize hPI:pyIter = PI at hit ⊢
    wp_walk
    subst hPI
    refine hit _ _ _ ?_
    refine wpAny_bind (wpAny_runValue ?_)
    have hlt:=K.there _ hok
    have hSf:s.heap.objs.size ∉ [(s.heap.push (setFresh w)).objs.size,r]:=by
     rw [Heap.size_push]; simp only [List.mem_cons,List.not_mem_nil,or_false,not_or]
     exact ⟨Nat.ne_of_lt (Nat.lt_succ_self _),Nat.ne_of_gt hlt⟩
    refine set_loopJ W hSf hJ step (n - 0) 0 _ (by (rfl)) (Nat.zero_le _) st (h0 _ (Heap.get?_push_of_some _ hS)) fun h' tk hk hJn=>?_
    show wpAny _ _ _ _ _ _
    refine wpAny_pure ?_
    show wpAny _ _ (ret Value.none) _ _ _
    refine wpAny_pure ⟨rfl,h',tk,rfl,hJn,fun b o e=>?_⟩
    have hb:=Heap.lt_size e
    exact hk b o (Nat.ne_of_lt hb) (fun z=>by
     rw [List.mem_singleton,Heap.size_push] at z
     exact absurd hb (by rw [z]; exact Nat.not_lt.mpr (Nat.le_succ _))) (Heap.get?_push_of_some _ (Heap.get?_push_of_some _ e))
   ·cases r₂ with
    | error e=>exact hr₂
    | ok fl₂ =>
     cases fl₂ with
     | ret r =>
      obtain ⟨rfl,h',tk,rfl,hS',hk'⟩:=hr₂
      repeat (any_goals (first | assumption | wp_step))
      exact h _ _ hS' hk'
     | _=>exact hr₂.elim
  | _=>exact hr.elim
end
theorem SetX.fresh {w:World} {h:Heap} {a:Addr} (e:h.get? a = some (setFresh w)):SetX w h a 0:=by
 refine ⟨[],0,0,0,!byText w,rfl,e,?_⟩
 cases hb:byText w with
 | true=>exact .inr rfl
 | false=>exact .inl rfl
theorem lay1 (f m:Nat) (led:Bool) (t:Tok):layNew (tabX 0 f m led) (esX []) (hashInt 1) (.int 1 t) = (esX [t],tabX 1 f m led,false,false):=by kernel_rfl
theorem lay2 (f m:Nat) (led:Bool) (a t:Tok):layNew (tabX 1 f m led) (esX [a]) (hashInt 2) (.int 2 t) = (esX [a,t],tabX 2 f m led,false,false):=by kernel_rfl
theorem lay3 (f m:Nat) (led:Bool) (a b t:Tok):layNew (tabX 2 f m led) (esX [a,b]) (hashInt 3) (.int 3 t) = (esX [a,b,t],tabX 3 f m led,false,false):=by kernel_rfl
section
variable {prog:Program} {w:World} {A:Around} {E:Value -> Shared -> Prop} {s:Shared}
theorem addX_core {n:Nat} {S:Addr} {ts:List Tok} {ep f m:Nat} {led:Bool} {k:Int} {t:Tok} (ho:s.heap.get? S = some { cls:=.type "set",dict:=none,data:=.set (esX ts) ep (tabX n f m led),slots:=#[] }) (hlen:ts.length = n) (hl:led = true ∨ byText w = true) (hn:n < 3)
  (hlay:layNew (tabX n f m led) (esX ts) (hashInt k) (.int k t) = (esX (ts ++ [t]),tabX (n + 1) f m led,false,false)) (hfit:(tabX n f m led).fits (esX ts).size = true) (hel:ElemsOf (intKind prog w) (esX ts).toList) (hno:(esX ts).toList.findIdx? (fun e=>(intKind prog w).is k e.2) = none)
  (hsz:(esX ts).size < scanBound) (hsz2:(esX (ts ++ [t])).size ≤ sizeLine) (htf:(tabX (n + 1) f m led).tooFull = false) {Q:Bool -> Shared -> Prop} (h:∀ b h' tk,Heap.SameBut S s.heap h' -> SetX w h' S (n + 1) -> Q b { s with heap:=h',toks:=tk }):wpAny (model prog w) A (setAdd S (.int k t)) Q E s:=by
 unfold setAdd
 refine wpAny_holding ?_
 refine wpAny_bind ((intKind prog w).pyHash (intKind_is _ _ k t) ?_)
 unfold setAddHashed setAddHashedIn
 refine wpAny_holding (wpAny_bind (wpAny_setState_of (s:={ s with toks:=s.toks + 1 }) ho rfl hfit ?_))
 dsimp only
 rw [byScan_of (x:=.int k t) rfl hsz hel]
 refine wpIteT ?_
 unfold setAddByScan
 refine wpAny_bind ?_
 refine wpAny_bind (wpAny_rule ?_)
 refine wpAny_bind (wpAny_setScan_of (s:={ s with toks:=s.toks + 1 }) (intKind_is _ _ k t) ho rfl hfit hel ?_)
 rw [hno]
 dsimp only
 have hlay':layNew (tabX n f m led) (esX ts) ((intKind prog w).hash k) (.int k t) = (esX (ts ++ [t]),tabX (n + 1) f m led,false,false):=hlay
 rw [hlay']
 dsimp only
 refine wpAny_bind (wpAny_pure ?_)
 rw [if_pos (show (tabX (n + 1) f m led).plain = true from rfl),hashByValue_scannable 8 (x:=.int k t) rfl]
 refine wpAny_bind (wpAny_pure ?_)
 simp only [plainKind,↓reduceIte]
 refine wpAny_bind (wpAny_storeSet_of (s:={ s with toks:=s.toks + 1 }) ho rfl ?_ hsz2)
 rw [htf]
 simp only [Bool.and_false,Bool.false_eq_true,↓reduceIte]
 refine wpAny_pure (wpAny_pure ?_)
 refine h _ _ _ (Heap.SameBut.update ..) ⟨ts ++ [t],ep + 1,f,m,led,by rw [List.length_append,hlen]; rfl,?_,hl⟩
 have:=Heap.get?_update_self (Obj.putSet (esX (ts ++ [t])) (tabX (n + 1) f m led)) ho (by rw [putSet_of _ _ rfl]; rfl)
 rw [putSet_of _ _ rfl] at this
 exact this
theorem elemsX1 {a:Tok}:ElemsOf (intKind prog w) (esX [a]).toList:=by
 intro e he
 have:(esX [a]).toList = [((1:Int),Value.int 1 a)]:=rfl
 rw [this] at he
 rw [List.mem_singleton.mp he]
 exact ⟨⟨1,intKind_is _ _ _ _,by rfl⟩,rfl⟩
theorem elemsX2 {a b:Tok}:ElemsOf (intKind prog w) (esX [a,b]).toList:=by
 intro e he
 have:(esX [a,b]).toList = [((1:Int),Value.int 1 a),((2:Int),Value.int 2 b)]:=rfl
 rw [this] at he
 rcases List.mem_cons.mp he with rfl | he
 ·exact ⟨⟨1,intKind_is _ _ _ _,by rfl⟩,rfl⟩
 ·rw [List.mem_singleton.mp he]
  exact ⟨⟨2,intKind_is _ _ _ _,by rfl⟩,rfl⟩
theorem addX {n:Nat} (hn:n < 3) {S:Addr} (x:SetX w s.heap S n) {t:Tok} {Q:Bool -> Shared -> Prop} (h:∀ b h' tk,Heap.SameBut S s.heap h' -> SetX w h' S (n + 1) -> Q b { s with heap:=h',toks:=tk }):wpAny (model prog w) A (setAdd S (.int ((n:Int) + 1) t)) Q E s:=by
 refine hG9 fun P_ b_=>?_
 obtain ⟨ts,ep,f,m,led,hlen,ho,hl⟩:=x
 refine b_ ?_; clear b_ P_
 subst hlen
 cases ts with
 | nil=>exact addX_core ho rfl hl hn (lay1 f m led t) (by kernel_rfl) (fun e he=>by cases he) rfl (by show 0 < 4096; (exact Nat.succ_pos _)) (by rw [sizeLine_eq]; show 1 ≤ _; (exact Nat.succ_pos _)) (by kernel_rfl) h
 | cons a ts =>
  cases ts with
  | nil=>exact addX_core ho rfl hl hn (lay2 f m led a t) (by kernel_rfl) elemsX1 (by rfl) (by show 1 < 4096; (exact Nat.le_add_left _ _)) (by rw [sizeLine_eq]; show 2 ≤ _; (exact Nat.le_add_left _ _)) (by kernel_rfl) h
  | cons b ts =>
   cases ts with
   | nil=>exact addX_core ho rfl hl hn (lay3 f m led a b t) (by kernel_rfl) elemsX2 (by rfl) (by show 2 < 4096; (exact Nat.le_add_left _ _)) (by rw [sizeLine_eq]; show 3 ≤ _; (exact Nat.le_add_left _ _)) (by kernel_rfl) h
   | cons _ _=>exact absurd hn (Nat.not_lt_of_le (Nat.le_add_left 3 _))
end
theorem slot_setit_next:Slot "set_iterator" "__next__" "set_iterator.__next__" :=
 .of (owner:="set_iterator") (n:="__next__") (by rw [typeLookup_type,builtinLookup_eq_fast]; kernel_rfl) (by decide +kernel) (by decide +kernel) (by decide +kernel)
  (by first | exact .inl (by decide +kernel) | exact .inr (by decide +kernel)) (by rw [isSubtype_type]; kernel_rfl)
theorem slot_setit_iter:Slot "set_iterator" "__iter__" "set_iterator.__iter__" :=
 .of (owner:="set_iterator") (n:="__iter__") (by rw [typeLookup_type,builtinLookup_eq_fast]; kernel_rfl) (by decide +kernel) (by decide +kernel) (by decide +kernel)
  (by first | exact .inl (by decide +kernel) | exact .inr (by decide +kernel)) (by rw [isSubtype_type]; kernel_rfl)
theorem owner_setit:Manifest.owners.lookup (String.ofList ['r','o','t','a','r','e','t','i','_','t','e','s'].reverse) = some Manifest.sig_set_iterator:=by kernel_rfl
theorem args_setit_next (a:Value):argsOk "set_iterator.__next__" ⟨[a],[]⟩:=by
 unfold argsOk; rw [signature?_of (id:="set_iterator.__next__") (n:=['_','_','t','x','e','n','_','_']) (o:=['r','o','t','a','r','e','t','i','_','t','e','s']) (by kernel_rfl) owner_setit]; kernel_rfl
theorem args_setit_iter (a:Value):argsOk "set_iterator.__iter__" ⟨[a],[]⟩:=by
 unfold argsOk; rw [signature?_of (id:="set_iterator.__iter__") (n:=['_','_','r','e','t','i','_','_']) (o:=['r','o','t','a','r','e','t','i','_','t','e','s']) (by kernel_rfl) owner_setit]; kernel_rfl
theorem entry_setit_next:entryFor table "set_iterator.__next__" = some Builtin.«set_iterator.__next__»:=entryFor_of_tree (by kernel_rfl)
theorem entry_set_iter:entryFor table "set.__iter__" = some Builtin.«frozenset.__iter__» :=
 entryFor_alias (id':="frozenset.__iter__") (by kernel_rfl) rfl (by decide +kernel) (by kernel_rfl)
theorem entry_setit_iter:entryFor table "set_iterator.__iter__" = some Builtin.«dict_keyiterator.__iter__» :=
 entryFor_alias (id':="dict_keyiterator.__iter__") (by kernel_rfl) rfl (by decide +kernel) (by kernel_rfl)
theorem erase_perm {α:Type} (l:List α):∀ (i:Nat) (x:α),l[i]? = some x -> (x :: l.eraseIdx i).Perm l:=by
 induction l with
 | nil=>intro i x h; exact none_some h
 | cons y l ih =>
  intro i x h
  cases i with
  | zero=>cases h; exact .refl _
  | succ i=>exact (List.Perm.swap y x _).trans ((ih i x h).cons y)
theorem pick_go {α:Type} (next:Nat -> Nat) (fuel:Nat):∀ (k:Nat) (left:List α) (out:Array α),left.length ≤ fuel -> (pickOrder.go next fuel k left out).toList.Perm (out.toList ++ left):=by
 induction fuel with
 | zero =>
  intro k left out h
  cases List.eq_nil_of_length_eq_zero (Nat.le_zero.mp h)
  rw [List.append_nil]; exact .refl _
 | succ fuel ih =>
  intro k left out h
  cases hx:left[next k % left.length]? with
  | none =>
   rw [show pickOrder.go next (fuel + 1) k left out = out by show (match left[next k % left.length]? with | some x=>_ | none=>_) = _; rw [hx]]
   rcases Nat.eq_zero_or_pos left.length with q | q
   ·cases List.eq_nil_of_length_eq_zero q
    rw [List.append_nil]
   ·exact absurd (Nat.mod_lt (next k) q) (Nat.not_lt.mpr (List.getElem?_eq_none_iff.mp hx))
  | some x =>
   rw [show pickOrder.go next (fuel + 1) k left out = pickOrder.go next fuel (k + 1) (left.eraseIdx (next k % left.length)) (out.push x) by show (match left[next k % left.length]? with | some x=>_ | none=>_) = _; rw [hx]]
   obtain ⟨hlt,hget⟩:=List.getElem?_eq_some_iff.mp hx
   refine (ih (k + 1) _ (out.push x) (by rw [List.length_eraseIdx_of_lt hlt]; exact Nat.sub_le_of_le_add h)).trans ?_
   rw [Array.toList_push,List.append_assoc]
   exact List.Perm.append_left _ (erase_perm _ _ _ hx)
theorem pick_perm {α:Type} (next:Nat -> Nat) (xs:Array α):(pickOrder next xs).toList.Perm xs.toList:=by
 have:=pick_go next xs.size 0 xs.toList #[] (by simp)
 rw [List.nil_append] at this
 exact this
noncomputable def ordX (w:World) (S:Addr) (ep:Nat) (es:Array (Int × Value)):Array (Int × Value):=if byText w = true then pickOrder (w.params.setOrder S ep) es else es
theorem ordX_perm (w:World) (S:Addr) (ep:Nat) (es:Array (Int × Value)):(ordX w S ep es).toList.Perm es.toList:=by
 unfold ordX
 split
 ·exact pick_perm _ _
 ·exact .refl _
noncomputable def slotAt:Nat -> Nat
 | 0=>0
 | i + 1=>i + 2
noncomputable def RawX (w:World) (h:Heap) (S:Addr) (ts:List Tok) (ep:Nat):Prop:=Ex3 fun f m led=>h.get? S = some { cls:=.type "set",dict:=none,data:=.set (esX ts) ep (tabX ts.length f m led),slots:=#[] } ∧ (led = true ∨ byText w = true)
noncomputable def IsSetIt (w:World) (h:Heap) (it S:Addr) (n ep i:Nat):Prop:=∃ slot:Nat,h.get? it = some { cls:=.type "set_iterator",dict:=none,data:=.fields #[rawInt slot,rawInt i,.ref S,rawInt n,rawInt ep],slots:=#[] } ∧ (byText w = true ∨ slot = slotAt i)
theorem esX_size (ts:List Tok):(esX ts).size = ts.length:=by simp [esX]
theorem tabX_fits (n f m:Nat) (led:Bool) (hn:n ≤ 3):(tabX n f m led).fits n = true:=by
 cases n with
 | zero=>rfl
 | succ n=>cases n with
  | zero=>rfl
  | succ n=>cases n with
   | zero=>rfl
   | succ n=>cases n with
    | zero=>rfl
    | succ n=>exact absurd hn (Nat.not_le_of_lt (Nat.le_add_left 4 n))
section
variable {prog:Program} {w:World} {A:Around} {E:Value -> Shared -> Prop} {s:Shared}
theorem RawX.typeIs {S:Addr} {ts:List Tok} {ep:Nat} (x:RawX w s.heap S ts ep):s.TypeIs (.ref S) "set":=(by obtain ⟨_,_,_,e,_⟩:=x; exact ⟨_,e,rfl⟩)
theorem byText_ask {Q:Bool -> Shared -> Prop} (h:Q (byText w) s):wpAny (model prog w) A setsByText Q E s:=wpAny_bind (wpAny_askSetting (wpAny_pure h))
theorem iterX {S:Addr} {ts:List Tok} {ep:Nat} {Q:Value -> Shared -> Prop} (hn:ts.length ≤ 3) (x:RawX w s.heap S ts ep)
  (hQ:Q (.ref s.heap.objs.size) { s with heap:=s.heap.push { cls:=.type "set_iterator",data:=.fields #[rawInt 0,rawInt 0,.ref S,rawInt ts.length,rawInt ep] } }):wpAny (model prog w) A (pyIter (.ref S)) Q E s:=by
 have hT:=x.typeIs
 obtain ⟨f,m,led,ho,hl⟩:=x
 have hf:(tabX ts.length f m led).fits (esX ts).size = true:=by rw [esX_size]; exact tabX_fits _ _ _ _ hn
 refine wpAny_pyIter_slot hT PySem.F.slot_set_iter (wpAny_call_entry PySem.F.slot_set_iter hT entry_set_iter ?_ (PySem.F.args_set_iter_1 _))
 unfold Builtin.«frozenset.__iter__» Builtin.Frozenset.slot0 slotArgs
 simp -iota only [List.isEmpty_nil,Bool.not_true,Bool.false_eq_true,↓reduceIte,bind_assoc,List.length_nil,bne_self_eq_false]
 unfold Builtin.Frozenset.addrOf Builtin.Frozenset.sizeOf
 refine wpAny_bind (wpAny_pure ?_)
 try dsimp only
 refine wpAny_bind (wpAny_pure ?_)
 refine wpAny_bind (wpAny_bind (wpAny_setEntries_of ho rfl hf (wpAny_pure ?_)))
 unfold setDrawn
 refine wpAny_bind (wpAny_bind (wpAny_setState_of ho rfl hf ?_))
 refine wpAny_bind (byText_ask ?_)
 show wpAny _ _ (pure (!byText w && false)) _ _ _
 refine wpAny_pure ?_
 rw [Bool.and_false]
 refine wpIteF ?_
 refine wpAny_bind (wpAny_pure ?_)
 refine wpAny_bind (wpAny_setEpoch_of ho rfl hf ?_)
 rw [esX_size]
 simp -iota only [newFields]
 exact wpAny_bind (wpAny_newObj_type (wpAny_pure ⟨_,rfl, "set_iterator",_,⟨_,Heap.get?_push_size _ rfl,rfl⟩,slot_setit_next.lookup,hQ⟩))
theorem selfX {it S:Addr} {n ep i:Nat} {Q:Value -> Shared -> Prop} (x:IsSetIt w s.heap it S n ep i) (h:Q (.ref it) s):wpAny (model prog w) A (pyIter (.ref it)) Q E s:=by
 obtain ⟨slot,ho,_⟩:=x
 have hT:s.TypeIs (.ref it) "set_iterator":=⟨_,ho,rfl⟩
 refine wpAny_pyIter_slot hT slot_setit_iter (wpAny_call_entry slot_setit_iter hT entry_setit_iter ?_ (args_setit_iter _))
 show wpAny _ _ (ret (.ref it)) _ _ s
 exact wpAny_pure ⟨_,rfl, "set_iterator",_,hT,slot_setit_next.lookup,h⟩
theorem belowX (n i:Nat) (hn:n ≤ 3) (hi:i ≤ n):SetTable.below ((List.range n).map (· + 1)).toArray (slotAt i) = i:=by
 have h:((List.range 4).all fun n=>(List.range (n + 1)).all fun i=>SetTable.below ((List.range n).map (· + 1)).toArray (slotAt i) == i) = true:=by kernel_rfl
 exact eq_of_beq (List.all_eq_true.mp (List.all_eq_true.mp h n (List.mem_range.mpr (Nat.lt_succ_of_le hn))) i (List.mem_range.mpr (Nat.lt_succ_of_le hi)))
theorem setNextX {S:Addr} {ts:List Tok} {ep i slot:Nat} {Q:Option (Value × Nat) -> Shared -> Prop} (hn:ts.length ≤ 3) (x:RawX w s.heap S ts ep) (hi:i ≤ ts.length) (hslot:byText w = true ∨ slot = slotAt i)
  (h1:∀ e next,(ordX w S ep (esX ts))[i]? = some e -> (byText w = true ∨ next = slotAt (i + 1)) -> Q (some (e.2,next)) s) (h2:(ordX w S ep (esX ts))[i]? = none -> Q none s):wpAny (model prog w) A (setNext S slot i ep) Q E s:=by
 obtain ⟨f,m,led,ho,hl⟩:=x
 have hf:(tabX ts.length f m led).fits (esX ts).size = true:=by rw [esX_size]; exact tabX_fits _ _ _ _ hn
 unfold setNext
 refine wpAny_bind (wpAny_setState_of ho rfl hf ?_)
 dsimp only
 refine wpAny_bind (byText_ask ?_)
 cases hb:byText w with
 | true =>
  simp -iota only [↓reduceIte,bne_self_eq_false,Bool.false_eq_true]
  unfold setWalk
  refine wpAny_bind (wpAny_bind (wpAny_setState_of ho rfl hf ?_))
  dsimp only
  refine wpAny_bind (byText_ask ?_)
  rw [hb]
  refine wpIteT ?_
  refine wpAny_bind (wpAny_askSetting (wpAny_pure ?_))
  have ho:ordX w S ep (esX ts) = pickOrder (w.params.setOrder S ep) (esX ts):=by unfold ordX; rw [if_pos hb]
  rw [ho] at h1 h2
  refine wpAny_pure ?_
  show Q (((pickOrder (w.params.setOrder S ep) (esX ts))[i]?).map fun e=>(e.2,slot)) s
  cases he:(pickOrder (w.params.setOrder S ep) (esX ts))[i]? with
  | none=>exact h2 he
  | some e=>exact h1 e slot he (.inl hb)
 | false =>
  have hl:led = true:=by
   rcases hl with q | q
   ·exact q
   ·rw [hb] at q; cases q
  subst hl
  have hs:slot = slotAt i:=by
   rcases hslot with q | q
   ·rw [hb] at q; cases q
   ·exact q
  subst hs
  have ho:ordX w S ep (esX ts) = esX ts:=by unfold ordX; rw [if_neg (by rw [hb]; simp)]
  rw [ho] at h1 h2
  refine wpIteF ?_
  refine wpAny_ite_split (fun q=>absurd q (show ¬ (false = true) from Bool.false_ne_true)) fun _=>?_
  refine wpAny_bind (wpAny_of_eq (a:=()) rfl ?_)
  rw [show SetTable.below (tabX ts.length f m true).place (slotAt i) = i from belowX _ _ hn hi]
  have hp:(tabX ts.length f m true).place[i]? = if i < ts.length then some (i + 1) else none:=by
   show ((List.range ts.length).map (· + 1)).toArray[i]? = _
   rw [List.getElem?_toArray,List.getElem?_map]
   split
   ·rename_i h; rw [List.getElem?_range h]; rfl
   ·rename_i h; rw [List.getElem?_eq_none (by simpa using h)]; rfl
  rw [hp]
  cases he:(esX ts)[i]? with
  | none =>
   refine wpAny_pure ?_
   exact h2 he
  | some e =>
   have hlt:i < ts.length:=by rw [← esX_size]; exact (Array.getElem?_eq_some_iff.mp he).1
   rw [if_pos hlt]
   refine wpAny_pure ?_
   exact h1 e (i + 1 + 1) he (.inr rfl)
theorem nextX {it S:Addr} {ts:List Tok} {ep i:Nat} {Q:Option Value -> Shared -> Prop} (hn:ts.length ≤ 3) (x:RawX w s.heap S ts ep) (y:IsSetIt w s.heap it S ts.length ep i) (hSi:S ≠ it) {e:Int × Value} (he:(ordX w S ep (esX ts))[i]? = some e)
  (hQ:∀ h',IsSetIt w h' it S ts.length ep (i + 1) -> Heap.SameBut it s.heap h' -> Q (some e.2) { s with heap:=h' }):wpAny (model prog w) A (pyNext (.ref it)) Q E s:=by
 obtain ⟨slot,hit,hslot⟩:=y
 have hTi:s.TypeIs (.ref it) "set_iterator":=⟨_,hit,rfl⟩
 obtain ⟨f,m,led,ho,hl⟩:=x
 have hf:(tabX ts.length f m led).fits (esX ts).size = true:=by rw [esX_size]; exact tabX_fits _ _ _ _ hn
 unfold pyNext
 refine wpAny_bind (wpAny_attempt (wpAny_callSpecial?_slot (name:=Str.ofString "__next__") hTi slot_setit_next (wpAny_call_entry slot_setit_next hTi entry_setit_next ?_ (args_setit_next _))))
 unfold Builtin.«set_iterator.__next__» slotArgs
 simp -iota only [List.isEmpty_nil,Bool.not_true,Bool.false_eq_true,↓reduceIte,bind_assoc,List.length_nil,bne_self_eq_false]
 refine wpAny_bind (wpAny_pure ?_)
 try dsimp only
 refine wpAny_bind (wpAny_fieldsOf hit rfl ?_)
 simp -iota only [rawInt]
 refine wpAny_bind (wpAny_setEntries_of ho rfl hf ?_)
 rw [if_neg (by rw [esX_size]; simp)]
 have hi:i < ts.length:=by
  have:=(Array.getElem?_eq_some_iff.mp he).1
  have hl:=(ordX_perm w S ep (esX ts)).length_eq
  simp -iota only [Array.length_toList,esX_size] at hl
  lia
 simp -iota only [Int.toNat_natCast]
 refine wpAny_bind (setNextX hn ⟨f,m,led,ho,hl⟩ (Nat.le_of_lt hi) hslot (fun e' next h1 h2=>?_) fun h1=>by rw [he] at h1; cases h1)
 rw [he] at h1; cases h1
 dsimp only
 refine wpAny_bind (wpAny_setField hit rfl (by simp) ?_)
 have hit2:=Heap.get?_update_self (Obj.mapFields (·.setIfInBounds 0 (rawInt (next:Int)))) hit rfl
 refine wpAny_bind (wpAny_setField hit2 rfl (by simp) ?_)
 have hit3:=Heap.get?_update_self (Obj.mapFields (·.setIfInBounds 1 (rawInt ((i:Int) + 1)))) hit2 rfl
 refine wpAny_pure ⟨_,rfl,wpAny_pure (hQ _ ⟨next,?_,h2⟩ ((Heap.SameBut.update ..).trans (Heap.SameBut.update ..)))⟩
 exact hit3
theorem endX {it S:Addr} {ts:List Tok} {ep:Nat} {Q:Option Value -> Shared -> Prop} (hh:A.handled = none) (hn:ts.length ≤ 3) (x:RawX w s.heap S ts ep) (y:IsSetIt w s.heap it S ts.length ep ts.length)
  (hQ:∀ h',Heap.ExtBut it s.heap h' -> Q none { s with heap:=h' }):wpAny (model prog w) A (pyNext (.ref it)) Q E s:=by
 refine hG9 fun P_ b_=>?_
 obtain ⟨slot,hit,hslot⟩:=y
 have hTi:s.TypeIs (.ref it) "set_iterator":=⟨_,hit,rfl⟩
 obtain ⟨f,m,led,ho,hl⟩:=x
 have hf:(tabX ts.length f m led).fits (esX ts).size = true:=by rw [esX_size]; exact tabX_fits _ _ _ _ hn
 refine b_ ?_; clear b_ P_
 unfold pyNext
 refine wpAny_bind (wpAny_attempt (wpAny_callSpecial?_slot (name:=Str.ofString "__next__") hTi slot_setit_next (wpAny_call_entry slot_setit_next hTi entry_setit_next ?_ (args_setit_next _))))
 unfold Builtin.«set_iterator.__next__» slotArgs
 simp -iota only [List.isEmpty_nil,Bool.not_true,Bool.false_eq_true,↓reduceIte,List.length_nil,bne_self_eq_false]
 refine wpAny_bind (wpAny_pure ?_)
 try dsimp only
 refine wpAny_bind (wpAny_fieldsOf hit rfl ?_)
 simp -iota only [rawInt]
 refine wpAny_bind (wpAny_setEntries_of ho rfl hf ?_)
 rw [if_neg (by rw [esX_size]; simp)]
 simp -iota only [Int.toNat_natCast]
 have hnone:(ordX w S ep (esX ts))[ts.length]? = none:=by
  have hl:=(ordX_perm w S ep (esX ts)).length_eq
  simp -iota only [Array.length_toList,esX_size] at hl
  exact Array.getElem?_eq_none (by exact Nat.le_of_eq ‹_›)
 refine wpAny_bind (setNextX hn ⟨f,m,led,ho,hl⟩ (Nat.le_refl _) hslot (fun e' next h1 h2=>by rw [hnone] at h1; cases h1) fun h1=>?_)
 dsimp only
 show wpAny _ _ (setField (.ref it) 2 .none >>= _) _ _ s
 refine wpAny_bind (wpAny_setField hit rfl (by simp) ?_)
 show wpAny _ _ (newExc (.type "StopIteration") [] >>= _) _ _ _
 refine wpAny_bind ?_
 simp -iota only [newExc,newTuple]
 refine wpAny_bind (wpAny_newObj_type ?_ (by size_fits))
 refine wpAny_bind (m:=firstArgMember _ _) (wpAny_of_eq (a:=Value.none) (by first | rfl | (simp -iota only [firstArgMember]; rfl)) ?_)
 refine wpAny_newObj_type ?_ (by size_fits)
 simp -iota only [raiseNew]
 refine wpAny_bind (wpAny_handled ?_)
 rw [show A.in1.handled = none from hh]
 refine wpAny_bind (wpAny_pure (wpAny_throw ?_))
 refine wpAny_bind (wpAny_isInstance (T:="StopIteration") (b:=true) ⟨_,Heap.get?_push_size _ rfl,rfl⟩ isSubtype_stop ?_)
 exact wpAny_pure (hQ _ (((Heap.SameBut.update ..).extBut.push _).push _))
theorem RawX.at {h h':Heap} {S:Addr} {ts:List Tok} {ep:Nat} (x:RawX w h S ts ep) (e:∀ o,h.get? S = some o -> h'.get? S = some o):RawX w h' S ts ep:=(by obtain ⟨f,m,led,ho,r⟩:=x; exact ⟨f,m,led,e _ ho,r⟩)
theorem IsSetIt.at {h h':Heap} {it S:Addr} {n ep i:Nat} (x:IsSetIt w h it S n ep i) (e:∀ o,h.get? it = some o -> h'.get? it = some o):IsSetIt w h' it S n ep i:=(by obtain ⟨f,ho,r⟩:=x; exact ⟨f,e _ ho,r⟩)
theorem walkX (hh:A.handled = none) (I S:Addr) (hne:S ≠ I) (ts:List Tok) (ep:Nat) (hn:ts.length ≤ 3) :
  Walks prog w A I [I,S] [I] ts.length (fun i v=>∃ e,(ordX w S ep (esX ts))[i]? = some e ∧ v = e.2) (fun i h=>IsSetIt w h I S ts.length ep i ∧ RawX w h S ts ep) where
 sub:=fun b hb=>by simp at hb; simp [hb]
 frame:=fun _ _ _ st hk=>⟨st.1.at fun o e=>hk I (by simp) o e,st.2.at fun o e=>hk S (by simp) o e⟩
 item:=fun i s Q E hi st hQ=>by
  have hl:=(ordX_perm w S ep (esX ts)).length_eq
  simp -iota only [Array.length_toList,esX_size] at hl
  have he:(ordX w S ep (esX ts))[i]? = some (ordX w S ep (esX ts))[i]:=Array.getElem?_eq_getElem (by lia)
  refine nextX hn st.2 st.1 hne he fun h' hit' hs'=>?_
  exact hQ _ h' s.toks ⟨_,he,rfl⟩ ⟨hit',st.2.at fun o e=>hs'.extBut S o hne e⟩ fun b o hb e=>hs'.extBut b o (fun h=>hb (by simp [h])) e
 done:=fun s Q E st hQ=>endX hh hn st.2 st.1 fun h' he'=>hQ h' s.toks fun b o hb e=>he' b o (fun h=>hb (by simp [h])) e
 self:=fun _ _ _ _ st hQ=>selfX st.1 hQ
theorem hint_set {r:Addr} {Q:Bool -> Shared -> Prop} (hT:s.TypeIs (.ref r) "set") (h:Q false s):wpAny (model prog w) A (Builtin.List.listLengthHint (.ref r)) Q E s:=by
 unfold Builtin.List.listLengthHint
 refine wpAny_bind (wpAny_specialOf hT PySem.F.slot_set_len.lookup ?_)
 generalize hid:("set.__len__" : String) = id0
 wp_delta
 rw [show splitId id0 = some ("set", "__len__") from by subst hid; decide +kernel]
 subst hid
 refine wpAny_bind (wpAny_isInstance (T:="set") (b:=true) hT (by rw [isSubtype_type]; kernel_rfl) ?_)
 refine wpAny_ite_split (fun hab=>absurd hab (by decide)) (fun _=>?_)
 refine wpAny_ite_split (fun _=>?_) (fun hab=>absurd (by decide +kernel) hab)
 refine wpAny_bind (wpAny_typeOf hT ?_)
 exact wpAny_pure h
theorem srcX (S:Addr) (ts:List Tok) (ep:Nat) (hn:ts.length ≤ 3):KdlSrc prog w "set" S S ts.length (fun i v=>∃ e,(ordX w S ep (esX ts))[i]? = some e ∧ v = e.2) (fun h=>RawX w h S ts ep) where
 type:=fun s h=>h.typeIs
 there:=fun h q1_=>by obtain ⟨_,_,_,ho,_⟩:=q1_; exact ⟨Heap.lt_size ho,Heap.lt_size ho⟩
 keep:=fun h h' x k=>x.at fun o e=>k S (.inl rfl) o e
 notList:=by decide
 notTuple:=by decide
 hint:=fun A E s Q x q=>hint_set x.typeIs q
 iter:=fun A s hh x=>by
  have hlt:S < s.heap.objs.size:=(by obtain ⟨_,_,_,ho,_⟩:=x; exact Heap.lt_size ho)
  exact ⟨{ cls:=.type "set_iterator",data:=.fields #[rawInt 0,rawInt 0,.ref S,rawInt ts.length,rawInt ep] },fun i h=>IsSetIt w h s.heap.objs.size S ts.length ep i ∧ RawX w h S ts ep,fun E Q q=>iterX hn x q,walkX hh _ S (Nat.ne_of_lt hlt) ts ep hn,⟨0,Heap.get?_push_size _ rfl,.inr rfl⟩,x.at fun o e=>Heap.get?_push_of_some _ e⟩
end
section
variable {prog:Program} {w:World} {A:Around} {E:Value -> Shared -> Prop} {s:Shared}
theorem call_set0 {Q:Value -> Shared -> Prop} (h:Q (.ref s.heap.objs.size) { s with heap:=s.heap.push (setFresh w) }):wpAny (model prog w) A (call (.type "set") []) Q E s:=by
 obtain ⟨c,tl,hmro⟩:=PySem.F.called_set.mro
 have hmade:=PySem.F.called_set.made
 have hsub:=PySem.F.called_set.sub
 refine wpAny_call (codeAny_of_tree ?_)
 show wpAny _ _ (callAny (.type "set") _) _ _ _
 refine wpAny_pure ⟨Code.quiet_builtin _ (by decide +kernel),codeAny_builtin PySem.F.entry_type_call ?_⟩
 rw [Around.under_plain (weight_type_call_type "set" [] []) rfl]
 have h1:=PySem.F.called_set.notType
 have h2:=PySem.F.called_set.canCreate
 have hct:=PySem.F.typeCall_set_0
 repeat (any_goals (first | assumption | wp_step))
 refine codeAny_mono (code_set_newL [] PySem.F.newCall_set_0 (E:=E) (Q₁:=fun obj s₁=>obj = .ref s.heap.objs.size ∧ s₁ = { s with heap:=s.heap.push (setFresh w) }) ⟨rfl,rfl⟩) fun r s₁ hr=>?_
 cases r with
 | error e=>exact hr
 | ok fl =>
  cases fl with
  | ret obj =>
   obtain ⟨rfl,rfl⟩:=hr
   have hS:(s.heap.push (setFresh w)).get? s.heap.objs.size = some (setFresh w):=Heap.get?_push_size _ rfl
   have hT:Shared.TypeIs { s with heap:=s.heap.push (setFresh w) } (.ref s.heap.objs.size) "set":=⟨_,hS,rfl⟩
   have hli:=PySem.F.called_set.init.lookup
   have hbi:=PySem.F.called_set.init.bind (.ref s.heap.objs.size)
   repeat (any_goals (first | assumption | wp_step))
   refine codeAny_mono (codeAny_call_builtin (R:=wants (fun r s₂=>r = .none ∧ Q (.ref s.heap.objs.size) s₂) E) PySem.F.called_set.init.plain PySem.F.entry_set_init (check_set_init hT ?_)) fun r₂ s₂ hr₂=>?_
   ·unfold Builtin.«set.__init__» noKeywords
    wp_walk
    exact ⟨rfl,h⟩
   ·cases r₂ with
    | error e=>exact hr₂
    | ok fl₂ =>
     cases fl₂ with
     | ret r =>
      obtain ⟨rfl,hq⟩:=hr₂
      repeat (any_goals (first | assumption | wp_step))
     | _=>exact hr₂.elim
  | _=>exact hr.elim
theorem Walks.more {I:Addr} {fp fp' wr:List Addr} {n:Nat} {P:Nat -> Value -> Prop} {St:Nat -> Heap -> Prop} (W:Walks prog w A I fp wr n P St) (h:∀ b ∈ fp,b ∈ fp'):Walks prog w A I fp' wr n P St where
 sub:=fun b hb=>h b (W.sub b hb)
 frame:=fun i h1 h2 st k=>W.frame i h1 h2 st fun b hb=>k b (h b hb)
 item:=W.item
 done:=W.done
 self:=W.self
theorem setSrcList (l:Addr) (items:Array Value):SetSrc prog w "list" l items.size (fun i v=>items[i]? = some v) (fun h=>h.IsList l items) where
 type:=fun s x=>x.typeIs
 there:=fun h x=>(by obtain ⟨_,ho,_⟩:=x; exact Heap.lt_size ho)
 keep:=fun h h' x k=>x.at k
 notSet:=PySem.F.sub_list_set
 notFrozen:=PySem.F.sub_list_frozenset
 notDict:=by decide
 iter:=fun A s hh x=>by
  have hlt:l < s.heap.objs.size:=by obtain ⟨_,ho,_⟩:=x; exact Heap.lt_size ho
  exact ⟨{ cls:=.type "list_iterator",data:=.fields #[.ref l,.int 0 0] },_,fun A' E Q q=>wpAny_pyIter_list x q,Walks.list hh _ l (Nat.ne_of_lt hlt) items,⟨_,Heap.get?_push_size _ rfl,rfl,rfl⟩,x.push _⟩
theorem sub_range_set:isSubtype (.type "range") (.type "set") = pure false:=by rw [isSubtype_type]; kernel_rfl
theorem sub_range_frozenset:isSubtype (.type "range") (.type "frozenset") = pure false:=by rw [isSubtype_type]; kernel_rfl
theorem setSrcRange (r:Addr) (a b:Int) (t u v:Tok) (n:Nat) (hn:Builtin.Range.rangeSize a b 1 = n) (hs:Builtin.Range.small a b 1 = true):SetSrc prog w "range" r n (fun i x=>∃ t,x = .int (a + i * 1) t) (fun h=>IsRange h r a b 1 t u v) where
 type:=fun s x=>⟨_,x,rfl⟩
 there:=fun h x=>Heap.lt_size x
 keep:=fun h h' x k=>k _ x
 notSet:=sub_range_set
 notFrozen:=sub_range_frozenset
 notDict:=by decide
 iter:=fun A s hh x=>by
  refine ⟨{ cls:=.type "range_iterator",data:=.fields #[rawInt a,rawInt (Builtin.Range.rangeSize a b 1),rawInt 1] },_,fun A' E Q q=>wpAny_pyIter_range x hs q,Walks.more (Walks.range hh _ a 1 n) (by simp),?_⟩
  show IsRangeIter _ _ _ _ _
  rw [hn]
  simpa using Heap.get?_push_size s.heap (o:={ cls:=.type "range_iterator",data:=.fields #[rawInt a,rawInt (n:Int),rawInt 1] }) rfl
end
noncomputable def dedupI (ns:List Int):List Int:=ns.foldl step_dedup []
theorem firstMet_all (ns:List Int):firstMet (fun i=>ns.getD i 0) ns.length = dedupI ns:=by
 unfold firstMet dedupI
 congr 1
 apply List.ext_getElem?
 intro i
 rw [List.getElem?_map]
 rcases Nat.lt_or_ge i ns.length with h | h
 ·rw [List.getElem?_range h,List.getElem?_eq_getElem h]; simp [List.getD,h]
 ·rw [List.getElem?_eq_none (by simpa using h),List.getElem?_eq_none h]; rfl
theorem step_contains (l:List Int) (v k:Int):(l.contains k || decide (k = v)) = (step_dedup l v).contains k:=by
 have h:=step_any l v k
 rw [List.any_beq'] at h
 rw [List.any_beq'] at h
 exact h.symm
noncomputable def mSetOf (m:AM V):AM V:=do
 let v ← m
 fun σ=>((v.view σ).bind O.listed).bind fun vs=>(intsOf vs).bind fun ns=>if ns.length < 1000 then some (.set (dedupI ns),σ) else none
section
variable {c:Cx} {d:Nat} {env:Env} {K F:Heap} {R:Adrs} {σ:St} {s:Shared}
theorem ints_at {cvs:List Value} {vs:List V} {ns:List Int} (h:VAll c F R cvs vs) (k:intsOf vs = some ns):IntsAre cvs ns:=by
 induction h using VAll.ind generalizing ns with
 | n=>cases k; exact .nil
 | @k cv cvs v vs h1 h2 ih =>
  cases v with
  | int i =>
   obtain ⟨t,rfl⟩:=h1.inv
   refine map_elim k fun ks' k' z2_=>?_
   subst z2_
   exact .cons _ _ (ih k')
  | _=>exact none_some k
theorem rSet0 (G:Glo c) (ok:EnvOK env) {i:Nat} {x:Str} {p pos:Pos} {g:Bool} (hi:env.scope.names[i]? = some (x,.globalImplicit)) (hn:c.mg x = none) (hv:c.mb x = some (.type "set")):RE c d env (eval (.Call (.Name x p) [] [] pos) env) (mAlloc g (.set [])):=by
 refine ⟨fun A gA K F R σ s S v σ' h=>?_⟩
 refine some2E h fun z0_ z1_=>?_
 subst z0_
 subst z1_
 refine wpAny_Call_Name_kw (nameB G ok S hi hn hv ?_)
 refine callWith_type0 (call_set0 ?_)
 obtain ⟨R',X,S',V'⟩:=S.alloc ok (g:=g) (q:=setFresh c.w) (o:=.set []) rfl fun h' R' e _=>(SetL.fresh e).congr (fun _=>rfl) rfl
 exact ⟨F,R',X,S',V'⟩
set_option tactic.hygienic true in
theorem rSetOf (G:Glo c) (ok:EnvOK env) {i:Nat} {x:Str} {p pos:Pos} {e:PySem.Expr} {m:AM V} (hi:env.scope.names[i]? = some (x,.globalImplicit)) (hn:c.mg x = none) (hv:c.mb x = some (.type "set")) (h1:RX c d env pos [e] [m])
  (hs:(backTo pos (starEach [e] env)).any (·.1) = false:=by rfl) (hs2:(backTo pos (starEach [e] env)).head? = some (false,eval e env):=by rfl):RE c d env (eval (.Call (.Name x p) [e] [] pos) env) (mSetOf m):=by
 refine ⟨fun A gA K F R σ s S v σ' h=>?_⟩
 refine hG9 fun P_ b_=>?_
 revert h
 refine AM.bind_elim fun u σ1 e1 h=>?_
 refine obind_elim h fun vs hvw h=>obind_elim h fun ns hns h=>some_ifE h fun hlen h=>?_
 obtain ⟨rfl,rfl⟩:=Prod.mk.inj h
 refine b_ ?_; clear b_ P_
 refine callT1 G ok hi hn hv h1 hs hs2 gA S e1 fun cv F1 R1 s1 X1 S1 a1=>?_
 refine list_inE S1 a1 hvw fun a cvs n z1_ g1 g2 _=>?_
 subst z1_
 have hI:=ints_at g2 hns
 have hl:cvs.length = ns.length:=IntsAre.length hI
 refine call_setJ (setSrcList a cvs.toArray) gA.1 ⟨_,g1,rfl,n,rfl⟩ (J:=fun i h=>SetL c.prog c.w h s1.heap.objs.size (fun k=>(firstMet (fun i=>ns.getD i 0) i).contains k) (firstMet (fun i=>ns.getD i 0) i).length) (fun i h h' x k=>x.keep k) (fun h e=>(SetL.fresh e).congr (fun _=>rfl) rfl) (fun A E i v s' Q hi hv hJ q=>?_) fun h' tk hJ hk=>?_
 ·skip
  obtain ⟨t,rfl⟩:=IntsAre.int_at hI i v (by simpa using hv)
  have hroom:(firstMet (fun i=>ns.getD i 0) i).length + 1 < scanBound:=by
   have h1:=firstMet_length_le (fun i=>ns.getD i 0) i
   have hi:i < cvs.length:=by simpa using hi
   show _ < 4096
   lia
  unfold setAdd
  refine wpAny_holding ?_
  refine wpAny_bind ((intKind c.prog c.w).pyHash (intKind_is _ _ _ t) ?_)
  refine addHashed_led (s:={ s' with toks:=s'.toks + 1 }) (intKind_is _ _ _ t) rfl hJ hroom fun h' hsb hS'=>q _ h' _ hsb (hS'.congr (fun k=>?_) ?_)
  ·rw [firstMet_succ]; exact step_contains _ _ _
  ·rw [firstMet_succ,step_length,List.any_beq']
 ·have hz:cvs.toArray.size = ns.length:=by simpa using hl
  rw [hz,firstMet_all] at hJ
  have S2:=S1.up (tk:=tk) (h':=h') hk
  have O:=S1.outNew ok (Nat.le_refl s1.heap.objs.size)
  obtain ⟨F',X,y,S',_⟩:=S2.freeze (fun a=>a == s1.heap.objs.size) fun a ha=>by
   have ha:a = s1.heap.objs.size:=by simpa using ha
   subst ha
   exact ⟨O.k,fun g n o l=>O.l _ _ _ _ l rfl,O.L,O.c⟩
  refine ⟨F',R1,X1.trans X,S',.set (hJ.keep fun o e=>(y _ (by simp)).trans e)⟩
theorem callT_range (G:Glo c) (ok:EnvOK env) {T:String} {i j:Nat} {x y:Str} {p p2 pos pos2:Pos} {e1 e2:PySem.Expr} {m1 m2:AM V} (hi:env.scope.names[i]? = some (x,.globalImplicit)) (hn:c.mg x = none) (hv:c.mb x = some (.type T))
  (hi2:env.scope.names[j]? = some (y,.globalImplicit)) (hn2:c.mg y = none) (hv2:c.mb y = some (.type "range")) (h1:RX c d env pos2 [e1,e2] [m1,m2]) (hs:(backTo pos2 (starEach [e1,e2] env)).any (·.1) = false) (hs2:(backTo pos2 (starEach [e1,e2] env)).head? = some (false,eval e1 env))
  (ht:backTo pos (starEach [.Call (.Name y p2) [e1,e2] [] pos2] env) = [(false,eval (.Call (.Name y p2) [e1,e2] [] pos2) env)]) {A:Around} (gA:GoodA A d) (S:Sim c env K F R σ s) {a b:Int} {σ':St} (h:mAll [m1,m2] σ = some ([.int a,.int b],σ'))
  {Q:Value -> Shared -> Prop} (q:∀ r t u v F' R' s',Ext K F R F' R' -> Sim c env K F' R' σ' s' -> IsRange s'.heap r a b 1 t u v -> wpAny (model c.prog c.w) A (call (.type T) [.ref r]) Q NoE s') :
  wpAny (model c.prog c.w) A (eval (.Call (.Name x p) [.Call (.Name y p2) [e1,e2] [] pos2] [] pos) env) Q NoE s:=by
 refine wpAny_Call_Name_kw (nameB G ok S hi hn hv ?_)
 show wpAny _ _ (callWith pos (.type T) [] (backTo pos (starEach [.Call (.Name y p2) [e1,e2] [] pos2] env)) []) _ _ _
 rw [ht]
 refine PyProof.Rows.callWith_type rfl (evalArgs_plain (Calls.spliced_cons (callT G ok hi2 hn2 hv2 h1 hs hs2 gA S h fun cvs F1 R1 s1 X1 S1 V1=>?_)))
 obtain ⟨cv,cu,rfl,a1,a2⟩:=V1.inv2
 obtain ⟨t,rfl⟩:=a1.inv
 obtain ⟨u,rfl⟩:=a2.inv
 refine call_range_2 (Calls.spliced_nil ?_)
 exact q _ _ _ _ F1 R1 _ X1 (S1.up fun _ _ e=>Heap.get?_push_of_some _ e) (IsRange.new s1.heap a b 1 t u s1.toks)
noncomputable def mSetR (m1 m2:AM V):AM V:=twoInts m1 m2 fun a b=>if a = 1 ∧ 1 ≤ b ∧ b ≤ 4 then some (.blk (b - 1).toNat) else none
theorem size_range {a b:Int}:Builtin.Range.rangeSize a b 1 = ((b - a).toNat:Int):=by rw [rangeSize_one]; split <;> lia
theorem rSetR (G:Glo c) (ok:EnvOK env) {i j:Nat} {x y:Str} {p p2 pos pos2:Pos} {e1 e2:PySem.Expr} {m1 m2:AM V} (hi:env.scope.names[i]? = some (x,.globalImplicit)) (hn:c.mg x = none) (hv:c.mb x = some (.type "set"))
  (hi2:env.scope.names[j]? = some (y,.globalImplicit)) (hn2:c.mg y = none) (hv2:c.mb y = some (.type "range")) (h1:RX c d env pos2 [e1,e2] [m1,m2]) (hs:(backTo pos2 (starEach [e1,e2] env)).any (·.1) = false:=by rfl) (hs2:(backTo pos2 (starEach [e1,e2] env)).head? = some (false,eval e1 env):=by rfl)
  (ht:backTo pos (starEach [.Call (.Name y p2) [e1,e2] [] pos2] env) = [(false,eval (.Call (.Name y p2) [e1,e2] [] pos2) env)]:=by rfl):RE c d env (eval (.Call (.Name x p) [.Call (.Name y p2) [e1,e2] [] pos2] [] pos) env) (mSetR m1 m2):=by
 refine ⟨fun A gA K F R σ s S v σ' h=>?_⟩
 refine twoInts_elim h fun a b σ1 e3 e4 hl=>some_ifE hl fun hc ql=>?_
 dsimp only at e4 ql
 subst ql
 obtain ⟨rfl,hb1,hb2⟩:=hc
 refine callT_range G ok hi hn hv hi2 hn2 hv2 h1 hs hs2 ht gA S (AM.bind_some.mpr ⟨_,_,e3,AM.bind_some.mpr ⟨_,_,AM.bind_some.mpr ⟨_,_,e4,rfl⟩,rfl⟩⟩) fun r t u v F1 R1 s1 X1 S1 hr=>?_
 have hn3:(b - 1).toNat ≤ 3:=by lia
 refine call_setJ (setSrcRange r 1 b t u v (b - 1).toNat size_range (small_one (by exact Int.natCast_nonneg _) (by exact Int.natCast_nonneg _) (by lia) (by exact wB ‹_› (by decide)))) gA.1 hr (J:=fun i h=>SetX c.w h s1.heap.objs.size i) (fun i h h' x k=>x.keep k) (fun h e=>SetX.fresh e) (fun A E i v s' Q hi hv hJ q=>?_) fun h' tk hJ hk=>?_
 ·skip
  obtain ⟨t',rfl⟩:=hv
  rw [show (1:Int) + i * 1 = (i:Int) + 1 by lia]
  exact addX (by exact Nat.le_trans ‹_› ‹_›) hJ q
 ·have S2:=S1.up (tk:=tk) (h':=h') hk
  have O:=S1.outNew ok (Nat.le_refl s1.heap.objs.size)
  obtain ⟨F',X,y,S',_⟩:=S2.freeze (fun a=>a == s1.heap.objs.size) fun a ha=>by
   have ha:a = s1.heap.objs.size:=by simpa using ha
   subst ha
   exact ⟨O.k,fun g n o l=>O.l _ _ _ _ l rfl,O.L,O.c⟩
  exact ⟨F',R1,X1.trans X,S',.blk (hJ.keep fun o e=>(y _ (by simp)).trans e)⟩
noncomputable def mListR (m1 m2:AM V):AM V:=twoInts m1 m2 fun a b=>if -(2 ^ 20) < a ∧ a < 2 ^ 20 ∧ -(2 ^ 20) < b ∧ b < 2 ^ 20 then some (.lst (intR a (b - a).toNat)) else none
theorem intR_at {a:Int} {n i:Nat} (h:i < n):(intR a n)[i]? = some (.int (a + i)):=by
 have h2:i < (intR a n).length:=by rw [intR_len]; exact h
 rw [List.getElem?_eq_getElem h2]
 exact congrArg some (intR_get (List.getElem?_eq_getElem h2)).2
theorem rListR (G:Glo c) (ok:EnvOK env) {i j:Nat} {x y:Str} {p p2 pos pos2:Pos} {e1 e2:PySem.Expr} {m1 m2:AM V} (hi:env.scope.names[i]? = some (x,.globalImplicit)) (hn:c.mg x = none) (hv:c.mb x = some (.type "list"))
  (hi2:env.scope.names[j]? = some (y,.globalImplicit)) (hn2:c.mg y = none) (hv2:c.mb y = some (.type "range")) (h1:RX c d env pos2 [e1,e2] [m1,m2]) (hs:(backTo pos2 (starEach [e1,e2] env)).any (·.1) = false:=by rfl) (hs2:(backTo pos2 (starEach [e1,e2] env)).head? = some (false,eval e1 env):=by rfl)
  (ht:backTo pos (starEach [.Call (.Name y p2) [e1,e2] [] pos2] env) = [(false,eval (.Call (.Name y p2) [e1,e2] [] pos2) env)]:=by rfl):RE c d env (eval (.Call (.Name x p) [.Call (.Name y p2) [e1,e2] [] pos2] [] pos) env) (mListR m1 m2):=by
 refine ⟨fun A gA K F R σ s S v σ' h=>?_⟩
 refine twoInts_elim h fun a b σ1 e3 e4 hl=>some_ifE hl fun hc ql=>?_
 dsimp only at e4 ql
 subst ql
 obtain ⟨ha1,ha2,hb1,hb2⟩:=hc
 refine callT_range G ok hi hn hv hi2 hn2 hv2 h1 hs hs2 ht gA S (AM.bind_some.mpr ⟨_,_,e3,AM.bind_some.mpr ⟨_,_,AM.bind_some.mpr ⟨_,_,e4,rfl⟩,rfl⟩⟩) fun r t u v F1 R1 s1 X1 S1 hr=>?_
 refine call_list_range gA.1 hr (small_one (by lia) (by exact wA ‹_› (by decide)) (by lia) (by exact wA ‹_› (by decide))) size_range (by lia) fun h' tk acc' c' hk hD hacc=>?_
 have S2:=S1.up (tk:=tk) (h':=h') hk
 have O:=S1.outNew ok (Nat.le_refl s1.heap.objs.size)
 obtain ⟨F',X,S',V'⟩:=S2.newFrozen O (cvs:=acc'.toList) (n:=c') (by simpa using hD) (vs:=intR a (b - a).toNat) (VAll.of (by rw [Array.length_toList,hacc.1,intR_len]) fun i cv v h1 h2=>by
  obtain ⟨hlt,rfl⟩:=intR_get h2
  obtain ⟨t',rfl⟩:=hacc.2 i cv (by rw [Array.getElem?_toList] at h1; exact h1)
  rw [Int.mul_one]; exact .int _ _)
 exact ⟨F',R1,X1.trans X,S',V'⟩
end
section
variable {c:Cx} {d:Nat} {env:Env} {K F:Heap} {R:Adrs} {σ:St} {s:Shared}
noncomputable def listOf? (σ:St) (v:V):Option (List V):=(v.view σ).bind O.listed
noncomputable def mAddL (out:St -> Option Bool) (a b:AM V):AM V:=do
 let x ← a
 let y ← b
 fun σ=>(listOf? σ x).bind fun vs=>(listOf? σ y).bind fun ws=>(if vs.length + ws.length < lid then some () else none).bind fun _=>mOut out (vs ++ ws) σ
set_option tactic.hygienic true in
theorem listOf_in (S:Sim c env K F R σ s) {cv:Value} {v:V} {vs:List V} (h:VIn c F R cv v) (k:listOf? σ v = some vs):Ex3 fun a cvs n=>And3 (cv = .ref a) (s.heap.get? a = some (seqO "list" cvs n)) (VAll c F R cvs vs):=by
 exact list_inE S h k fun a cvs n e g1 g2 _=>⟨a,cvs,n,e,g1,g2⟩
set_option tactic.hygienic true in
theorem rAddL (ok:EnvOK env) {out:St -> Option Bool} {l r:PySem.Expr} {pos:Pos} {ml mr:AM V} (h1:RE c d env (eval l env) ml) (h2:RE c d env (eval r env) mr):RE c d env (eval (.BinOp l .Add r pos) env) (mAddL out ml mr):=by
 refine ⟨fun A gA K F R σ s S v σ' h=>?_⟩
 refine hG9 fun P_ b_=>?_
 revert h
 refine AM.bind_elim fun x σ1 e1 h=>?_
 revert h
 refine AM.bind_elim fun y σ2 e2 h=>?_
 refine obind_elim h fun vs hx h=>obind_elim h fun ws hy h=>obind_elim h fun _ hl h=>some_ifE hl fun hl _=>?_
 refine b_ ?_; clear b_ P_
 refine wpAny_BinOp (h1.go gA S e1 fun ca F1 R1 s1 X1 S1 V1=>h2.go gA S1 e2 fun cb F2 R2 s2 X2 S2 V2=>?_)
 obtain ⟨a,cvs,n,rfl,g1,g2⟩:=listOf_in S2 (V1.ext X2) hx
 obtain ⟨b,dvs,n2,rfl,g3,g4⟩:=listOf_in S2 V2 hy
 refine concat_meets ⟨_,g1,rfl⟩ ⟨_,g3,rfl⟩ noFill_list_add seq_list_add PySem.F.slot_list_add PySem.F.entry_list_add (PySem.F.args_list_add_2 _ _) (list_addW a b cvs.toArray dvs.toArray n n2 none none #[] #[] (by
  have h1:=g2.length
  have h2:=g4.length
  have:=lid_line
  simp only [List.size_toArray]; lia)) ⟨g1,g3,?_⟩
 have e:cvs.toArray ++ dvs.toArray = (cvs ++ dvs).toArray:=by simp
 rw [e]
 have O:=S2.outNew ok (Nat.le_refl s2.heap.objs.size)
 have S3:=S2.push (tk:=s2.toks) (seqO "list" (cvs ++ dvs) 0)
 obtain ⟨F4,R4,X4,S4,V4⟩:=out_list S3 O (cvs:=cvs ++ dvs) (n:=0) (Heap.get?_push_size _ rfl) (g2.append g4) h
 exact ⟨F4,R4,(X1.trans X2).trans X4,S4,V4⟩
end
noncomputable def RawS (p:Program) (w:World) (h:Heap) (a:Addr) (es:Array (Int × Value)) (ep:Nat):Prop :=
 ∃ o t,h.get? a = some o ∧ o.ExactSet ∧ o.data = .set es ep t ∧ ElemsOf (intKind p w) es.toList ∧ es.size < scanBound ∧ t.fits es.size = true ∧ (t.led = true ∨ byText w = true)
section
variable {prog:Program} {w:World} {A:Around} {E:Value -> Shared -> Prop} {s:Shared}
theorem SetL.raw {h:Heap} {a:Addr} {S:Int -> Bool} {n:Nat} (x:SetL prog w h a S n):Ex2 fun es ep=>And3 (RawS prog w h a es ep) (∀ k,S k = true ↔ ∃ e ∈ es.toList,(intKind prog w).is k e.2 = true) (es.size = n):=by
 refine hG9 fun P_ b_=>?_
 obtain ⟨o,es,ep,t,h1,h2,h3,h4,h5,h6,h7,h8,h9⟩:=x
 refine b_ ?_; clear b_ P_
 exact ⟨es,ep,⟨o,t,h1,h2,h3,h4,h6,h7,h9⟩,h5,h8⟩
theorem newSetL {Q:Value -> Shared -> Prop} (h:Q (.ref s.heap.objs.size) { s with heap:=s.heap.push (setFresh w) }):wpAny (model prog w) A (newSet (.type "set")) Q E s:=by
 unfold newSet setsByText
 refine wpAny_bind (wpAny_bind (wpAny_askSetting (wpAny_pure ?_)))
 dsimp only
 simp only [newObj]
 exact wpAny_bind (wpAny_alloc (wpAny_pure h))
theorem forIn_inv {M:Model} {α β:Type} {f:α -> β -> Sem (ForInStep β)} {Q:β -> Shared -> Prop} (I:List α -> β -> Shared -> Prop)
  (step:∀ x r b s,I (x :: r) b s -> wpAny M A (f x b) (fun st s'=>∃ b',st = .yield b' ∧ I r b' s') E s) (hQ:∀ b s,I [] b s -> Q b s) (l:List α):∀ (b:β) (s:Shared),I l b s -> wpAny M A (forIn l b f) Q E s:=by
 induction l with
 | nil=>exact fun b s h=>wpAny_pure (hQ b s h)
 | cons x r ih =>
  intro b s h
  rw [List.forIn_cons]
  refine wpAny_bind (wpAny_mono (step x r b s h) (fun st s' q_=>?_) fun _ _ z=>z)
  obtain ⟨b',e,h'⟩:=q_
  subst e
  exact ih b' s' h'
theorem setsQuiet_of {sets:List Addr} {Q:Bool -> Shared -> Prop} (hs:∀ a ∈ sets,∃ es ep,RawS prog w s.heap a es ep) (h:Q true s):wpAny (model prog w) A (setsQuiet sets) Q E s:=by
 unfold setsQuiet
 dsimp only
 refine wpAny_bind (forIn_inv (fun r b s'=>b = (none,()) ∧ s' = s ∧ ∀ a ∈ r,∃ es ep,RawS prog w s.heap a es ep) (fun a r b s' q_=>?_) (fun b s' q_=>?_) sets _ s ⟨rfl,rfl,hs⟩)
 ·obtain ⟨e1,e2,e3⟩:=q_
  subst e1; subst e2
  obtain ⟨es,ep,o,t,h1,h2,h3,h4,h5,h6,_⟩:=e3 a List.mem_cons_self
  refine wpAny_bind (wpAny_setEntries_of h1 h3 h6 ?_)
  rw [← Array.forIn_toList]
  refine wpAny_bind (forIn_inv (fun r b s''=>b = (none,()) ∧ s'' = s' ∧ ∀ e ∈ r,e.2.scannable = true) (fun e r b s'' q_=>?_) (fun b s'' q_=>?_) es.toList _ s' ⟨rfl,rfl,fun e he=>(h4 e he).2⟩)
  ·obtain ⟨f1,f2,f3⟩:=q_
   subst f1; subst f2
   have:=f3 e List.mem_cons_self
   obtain ⟨hsh,x⟩:=e
   cases x with
   | ref a=>cases this
   | _=>exact wpAny_pure ⟨_,rfl,rfl,rfl,fun e he=>f3 e (List.mem_cons_of_mem _ he)⟩
  ·obtain ⟨f1,f2,_⟩:=q_
   subst f1; subst f2
   exact wpAny_pure ⟨_,rfl,rfl,rfl,fun b hb=>e3 b (List.mem_cons_of_mem _ hb)⟩
 ·obtain ⟨e1,e2,_⟩:=q_
  subst e1; subst e2
  exact wpAny_pure h
theorem walkUnseen {a o r:Addr} {es:Array (Int × Value)} {ep:Nat} {Q:Array (Int × Value) -> Shared -> Prop} (x:RawS prog w s.heap a es ep) (y:∃ es ep,RawS prog w s.heap o es ep) (z:SetL prog w s.heap r (fun _=>false) 0) (har:a ≠ r)
  (h:∀ es' h',es'.toList.Perm es.toList -> Heap.SameBut r s.heap h' -> SetL prog w h' r (fun _=>false) 0 -> Q es' { s with heap:=h' }):wpAny (model prog w) A (setWalkUnseen a [o,r] (some r)) Q E s:=by
 refine hG9 fun P_ b_=>?_
 obtain ⟨oo,t,h1,h2,h3,h4,h5,h6,h7⟩:=id x
 have same:=h es s.heap (.refl _) (Heap.SameBut.refl r s.heap) z
 have es_:({ s with heap:=s.heap }:Shared) = s:=by cases s; rfl
 rw [es_] at same
 have walk:((byText w || (t.led && t.plain)) || decide (es.size ≤ 1)) = true -> wpAny (model prog w) A (setWalk a) Q E s:=by
  intro hc
  unfold setWalk
  refine wpAny_bind (wpAny_setState_of h1 h3 h6 ?_)
  dsimp only
  refine wpAny_bind (byText_ask ?_)
  cases hb:byText w with
  | true =>
   refine wpIteT ?_
   refine wpAny_bind (wpAny_askSetting (wpAny_pure ?_))
   have:=h (pickOrder (w.params.setOrder a ep) es) s.heap (pick_perm _ _) (Heap.SameBut.refl r s.heap) z
   rw [es_] at this
   exact this
  | false =>
   refine wpIteF ?_
   rw [hb,Bool.false_or] at hc
   have hl:t.led = true:=by
    rcases h7 with q | q
    ·exact q
    ·rw [hb] at q; cases q
   refine wpAny_ite_split (fun q=>?_) fun _=>?_
   ·exfalso
    have q:(!t.plain && decide (es.size > 1)) = true:=q
    simp only [Bool.and_eq_true,Bool.not_eq_true',decide_eq_true_eq] at q
    rw [q.1,Bool.and_false,Bool.false_or,decide_eq_true_eq] at hc
    lia
   ·refine wpAny_bind (wpAny_of_eq (a:=()) ?_ (wpAny_pure same))
    show (if (!t.led && decide (es.size > 1)) = true then unsupported "set:maker-not-led" else pure ()) = pure ()
    rw [hl]; rfl
 refine b_ ?_; clear b_ P_
 unfold setWalkUnseen
 refine wpAny_bind (wpAny_setState_of h1 h3 h6 ?_)
 dsimp only
 refine wpAny_bind (byText_ask ?_)
 refine wpAny_ite_split (fun q=>?_) fun q=>?_
 ·exact wpAny_mono (walk q) (fun _ _ z=>z) fun _ _ z=>z
 ·skip
  obtain ⟨es0,ep0,hr,_⟩:=z.raw
  refine wpAny_bind (setsQuiet_of (fun b hb=>?_) ?_)
  ·skip
   rcases List.mem_cons.mp hb with rfl | hb
   ·skip
    exact ⟨_,_,x⟩
   ·rcases List.mem_cons.mp hb with rfl | hb
    ·skip
     exact y
    ·skip
     rw [List.mem_singleton.mp hb]; exact ⟨_,_,hr⟩
  ·refine wpIteF ?_
   refine wpAny_bind (wpAny_rule ?_)
   refine hG9 fun P_ b_=>?_
   obtain ⟨o1,ef,e1,tf,k1,k2,k3,k4,k5,k6,k7,k8,k9⟩:=id z
   refine b_ ?_; clear b_ P_
   refine wpAny_bind (wpAny_setState_of k1 k3 k7 ?_)
   dsimp only
   refine wpAny_ite_split (fun _=>?_) fun _=>wpAny_pure same
   refine wpAny_bind (wpAny_storeSet_of k1 k3 ?_ (fits_of_scanBound k6))
   refine wpAny_pure ?_
   have hled:(tf.led && t.led) = true ∨ byText w = true:=by
    rcases k9 with q1 | q1
    ·rcases h7 with q2 | q2
     ·left; rw [q1,q2]; rfl
     ·exact .inr q2
    ·exact .inr q1
   obtain ⟨_,hS⟩:=SetL.store (prog:=prog) (w:=w) k1 k2 k3 (t':={ tf with led:=tf.led && t.led,plain:=tf.plain && t.plain }) k4 k5 k6 (by exact k7) hled
   rw [k8] at hS
   exact h es _ (.refl _) (Heap.SameBut.update ..) hS
end
section
variable {prog:Program} {w:World} {A:Around} {E:Value -> Shared -> Prop} {s:Shared}
theorem RawS.at {h h':Heap} {a:Addr} {es:Array (Int × Value)} {ep:Nat} (x:RawS prog w h a es ep) (k:∀ o,h.get? a = some o -> h'.get? a = some o):RawS prog w h' a es ep:=(by obtain ⟨o,t,h1,r⟩:=x; exact ⟨o,t,k o h1,r⟩)
theorem anySet {a:Addr} {Q:Bool -> Shared -> Prop} (hT:s.TypeIs (.ref a) "set") (h:Q true s):wpAny (model prog w) A (Builtin.Frozenset.isAnySet (.ref a)) Q E s:=by
 unfold Builtin.Frozenset.isAnySet
 refine wpAny_bind (wpAny_isInstance hT sub_set_self ?_)
 exact wpAny_pure h
noncomputable abbrev KeyOf (prog:Program) (w:World):Int × Value -> Int -> Prop:=fun e k=>(intKind prog w).is k e.2 = true ∧ e.1 = (intKind prog w).hash k ∧ e.2.scannable = true
noncomputable def leftI (T:Int -> Bool) (ks:List Int) (acc:List Int):List Int:=ks.foldl (fun acc k=>if T k then acc else step_dedup acc k) acc
theorem leftI_snoc (T:Int -> Bool) (ks:List Int) (k:Int):leftI T (ks ++ [k]) [] = if T k then leftI T ks [] else step_dedup (leftI T ks []) k:=by
 unfold leftI; rw [List.foldl_append]; rfl
theorem step_len (l:List Int) (k:Int):(step_dedup l k).length ≤ l.length + 1:=by
 rw [step_length]; split <;> lia
theorem leftI_len (T:Int -> Bool) (ks:List Int):∀ (acc:List Int),(leftI T ks acc).length ≤ acc.length + ks.length:=by
 induction ks with
 | nil=>exact fun _=>Nat.le_refl _
 | cons k ks ih =>
  intro acc
  show (leftI T ks (if T k then acc else step_dedup acc k)).length ≤ _
  have:=ih (if T k then acc else step_dedup acc k)
  have h2:(if T k then acc else step_dedup acc k).length ≤ acc.length + 1:=by
   split
   ·(exact Nat.le_succ _)
   ·exact step_len _ _
  rw [List.length_cons]
  (exact uG ‹_› ‹_›)
theorem entry_set_sub:entryFor table "set.__sub__" = some Builtin.«frozenset.__sub__» :=
 entryFor_alias (id':="frozenset.__sub__") (by kernel_rfl) rfl (by decide +kernel) (by kernel_rfl)
noncomputable abbrev SubInv (prog:Program) (w:World) (s:Shared) (T:Int -> Bool) (ks:List Int) (r:List (Int × Value)) (s':Shared):Prop:=Ex2 fun done rest=>And3 (ks = done ++ rest) (Paired (KeyOf prog w) r rest) (Ex2 fun h' tk=>And3 (s' = { s with heap:=h',toks:=tk }) (Heap.SameBut s.heap.objs.size (s.heap.push (setFresh w)) h') (SetL prog w h' s.heap.objs.size (fun k=>(leftI T done []).contains k) (leftI T done []).length))
theorem sub_body {a b:Addr} {es:Array (Int × Value)} {ep:Nat} {T:Int -> Bool} {n:Nat} (x:RawS prog w s.heap a es ep) (y:SetL prog w s.heap b T n) (hq:¬ es.size / 4 > n) {P:PySem.Fin -> Shared -> Prop}
  (h:∀ h' (tk:Nat) (es':Array (Int × Value)) (ks:List Int),es'.toList.Perm es.toList -> Paired (KeyOf prog w) es'.toList ks -> (∀ b o,s.heap.get? b = some o -> h'.get? b = some o) -> SetL prog w h' s.heap.objs.size (fun k=>(leftI T ks []).contains k) (leftI T ks []).length -> P (.done (.ret (.ref s.heap.objs.size))) { s with heap:=h',toks:=tk }) :
  wpAny (model prog w) A (Builtin.«frozenset.__sub__» ⟨[.ref a,.ref b],[]⟩) P E s:=by
 refine hG9 fun P_ b_=>?_
 obtain ⟨oa,ta,ha,hax,had,hae,hab,haf,hal⟩:=id x
 have hTa:s.TypeIs (.ref a) "set":=⟨_,ha,hax.1⟩
 have hTb:s.TypeIs (.ref b) "set":=y.of.typeIs
 refine b_ ?_; clear b_ P_
 show wpAny _ _ (Builtin.Frozenset.slot1 "__sub__" ⟨[.ref a,.ref b],[]⟩ >>= _) _ _ s
 unfold Builtin.Frozenset.slot1 slotArgs
 simp -iota only [List.isEmpty_nil,Bool.not_true,Bool.false_eq_true,↓reduceIte,List.length_cons,List.length_nil,Nat.zero_add,bne_self_eq_false]
 refine wpAny_bind (wpAny_bind (wpAny_pure ?_))
 try dsimp only
 refine wpAny_pure ?_
 try dsimp only
 refine wpAny_bind (wpAny_bind (anySet hTa ?_))
 show wpAny _ _ (Builtin.Frozenset.isAnySet (Value.ref b)) _ _ _
 refine anySet hTb ?_
 refine wpIteF ?_
 refine wpAny_bind (wpAny_pure ?_)
 refine wpAny_bind ?_
 unfold Builtin.Frozenset.difference
 refine wpAny_bind (anySet hTb ?_)
 refine wpIteF ?_
 unfold Builtin.Frozenset.sizeOf
 refine wpAny_bind (wpAny_pure ?_)
 refine wpIteF ?_
 refine hG9 fun P_ b_=>?_
 obtain ⟨ob,eb,epb,tb,hb,hbx,hbd,hbe,hbm,hbb,hbf,hbn,hbl⟩:=id y
 refine b_ ?_; clear b_ P_
 refine wpAny_bind (wpAny_bind (wpAny_setEntries_of hb hbd hbf (wpAny_pure ?_)))
 refine wpAny_bind (wpAny_bind (wpAny_setEntries_of ha had haf (wpAny_pure ?_)))
 rw [if_neg (by rw [hbn]; exact hq)]
 unfold Builtin.Frozenset.baseOf
 refine wpAny_bind (wpAny_bind (wpAny_isInstance hTa sub_set_self (wpAny_pure ?_)))
 simp only [↓reduceIte]
 refine wpAny_bind (newSetL ?_)
 refine wpAny_bind (wpAny_pure ?_)
 have k1:∀ b o,s.heap.get? b = some o -> (s.heap.push (setFresh w)).get? b = some o:=fun b o e=>Heap.get?_push_of_some _ e
 refine wpAny_bind (wpAny_setEpoch_of (s:={ s with heap:=s.heap.push (setFresh w) }) (k1 _ _ ha) had haf ?_)
 refine wpAny_bind (wpAny_holding ?_)
 have hr0:SetL prog w (s.heap.push (setFresh w)) s.heap.objs.size (fun _=>false) 0:=SetL.fresh (Heap.get?_push_size _ rfl)
 have har:a ≠ s.heap.objs.size:=Nat.ne_of_lt (Heap.lt_size ha)
 have hbr:b ≠ s.heap.objs.size:=Nat.ne_of_lt (Heap.lt_size hb)
 obtain ⟨eb',epb',hbraw,_⟩:=y.raw
 refine wpAny_bind (walkUnseen (s:={ s with heap:=s.heap.push (setFresh w) }) (x.at fun o e=>k1 _ _ e) ⟨_,_,hbraw.at fun o e=>k1 _ _ e⟩ hr0 har fun es' h1 hp hs1 hr1=>?_)
 rw [← Array.forIn_toList]
 obtain ⟨ks,hks⟩:∃ ks,Paired (KeyOf prog w) es'.toList ks:=by
  have:∀ l:List (Int × Value),ElemsOf (intKind prog w) l -> ∃ ks,Paired (KeyOf prog w) l ks:=by
   intro l
   induction l with
   | nil=>intro _; exact ⟨[],.nil⟩
   | cons e l ih =>
    intro hl
    obtain ⟨⟨k,h1,h2⟩,h3⟩:=hl.head
    obtain ⟨ks,hks⟩:=ih hl.tail
    exact ⟨k :: ks,.cons ⟨h1,h2,h3⟩ hks⟩
  exact this _ (hae.perm hp)
 have hlen:ks.length < scanBound:=by rw [← hks.length,hp.length_eq,Array.length_toList]; exact hab
 refine wpAny_bind (forIn_inv (fun r b s'=>SubInv prog w s T ks r s') ?_ ?_ es'.toList _ _ ⟨[],ks,rfl,hks,h1,s.toks,rfl,hs1,hr1.congr (fun _=>rfl) rfl⟩)
 ·intro h0_ r u s' h1_
  refine hG9 fun P_ b_=>?_
  obtain ⟨hsh,v⟩:=h0_
  obtain ⟨done,rest,e1,e2,h',tk,rfl,hsb,hS⟩:=h1_
  cases e2 with
  | @cons _ k _ rest' hk hr =>
   obtain ⟨hk1,hk2,hk3⟩:=hk
   have hk2:hsh = (intKind prog w).hash k:=hk2
   subst hk2
   have ka:∀ o,s.heap.get? a = some o -> h'.get? a = some o:=fun o e=>hsb.extBut a o har (k1 _ _ e)
   have kb:∀ o,s.heap.get? b = some o -> h'.get? b = some o:=fun o e=>hsb.extBut b o hbr (k1 _ _ e)
   have fin:∀ (h2:Heap) (tk2:Nat),Heap.SameBut s.heap.objs.size (s.heap.push (setFresh w)) h2 -> SetL prog w h2 s.heap.objs.size (fun k'=>(leftI T (done ++ [k]) []).contains k') (leftI T (done ++ [k]) []).length ->
     wpAny (model prog w) A (do Builtin.Frozenset.unchanged (toString "frozenset." ++ toString "__sub__") a ep; pure (ForInStep.yield PUnit.unit)) (fun st s'=>∃ b',st = ForInStep.yield b' ∧ SubInv prog w s T ks r s') E { s with heap:=h2,toks:=tk2 }:=by
    intro h2 tk2 hs2 hS2
    refine wpAny_bind ?_
    unfold Builtin.Frozenset.unchanged
    refine wpAny_bind (wpAny_setEpoch_of (s:={ s with heap:=h2,toks:=tk2 }) (hs2.extBut a _ har (k1 _ _ ha)) had haf ?_)
    simp only [bne_self_eq_false,Bool.false_eq_true,↓reduceIte]
    refine wpAny_pure (wpAny_pure ⟨_,rfl,done ++ [k],rest',by rw [e1,List.append_assoc]; rfl,hr,h2,tk2,rfl,hs2,hS2⟩)
   refine b_ ?_; clear b_ P_
   refine wpAny_bind (wpAny_holding ?_)
   dsimp only
   have hSb:h'.SetOf (intKind prog w) b T n:=(y.keep kb).of
   have hk1':(intKind prog w).is k v = true:=hk1
   have hk3':v.scannable = true:=hk3
   refine wpAny_bind (wpAny_setFind_of (knd:=intKind prog w) (k:=k) (x:=v) (s:={ s with heap:=h',toks:=tk }) hk1' hk3' hSb ?_)
   intro r' hr'
   refine wpAny_bind (wpAny_pure ?_)
   rw [hr']
   cases hT:T k with
   | true =>
    refine wpIteF ?_
    refine wpAny_pure (fin h' tk hsb ?_)
    rw [leftI_snoc,hT]
    exact hS
   | false =>
    refine wpIteT ?_
    have hroom:(leftI T done []).length + 1 < scanBound:=by
     have h1:=leftI_len T done []
     have h2:ks.length = done.length + (k :: rest').length:=by rw [e1,List.length_append]
     simp -iota only [List.length_cons,List.length_nil] at h1 h2
     lia
    refine wpAny_bind (addHashed_led (s:={ s with heap:=h',toks:=tk }) hk1 hk3 hS hroom fun h2 hs2 hS2=>?_)
    refine wpAny_pure (fin h2 tk (hsb.trans hs2) (hS2.congr (fun k'=>?_) ?_))
    ·rw [leftI_snoc,hT]; exact step_contains _ _ _
    ·rw [leftI_snoc,hT]
     show _ = (if false = true then _ else step_dedup (leftI T done []) k).length
     simp -iota only [Bool.false_eq_true,↓reduceIte]
     rw [step_length,List.any_beq']
 ·intro u s' h0_
  refine hG9 fun P_ b_=>?_
  obtain ⟨done,rest,e1,e2,h',tk,rfl,hsb,hS⟩:=h0_
  cases e2
  rw [List.append_nil] at e1
  subst e1
  refine b_ ?_; clear b_ P_
  refine wpAny_pure (wpAny_pure ?_)
  refine wpAny_pure ?_
  exact h h' tk es' ks hp hks (fun b' o e=>hsb.extBut b' o (Nat.ne_of_lt (Heap.lt_size e)) (k1 _ _ e)) hS
end
theorem step_nodup {l:List Int} {k:Int} (h:l.Nodup):(step_dedup l k).Nodup:=by
 unfold step_dedup
 split
 ·exact h
 ·rename_i hn
  rw [List.nodup_append]
  refine ⟨h,by simp,fun a ha b hb e=>?_⟩
  rw [List.mem_singleton] at hb
  subst e; subst hb
  exact hn (List.any_eq_true.mpr ⟨a,ha,by simp⟩)
theorem leftI_nodup (T:Int -> Bool) (ks:List Int):∀ (acc:List Int),acc.Nodup -> (leftI T ks acc).Nodup:=by
 induction ks with
 | nil=>exact fun _ h=>h
 | cons k ks ih=>exact fun acc h=>ih _ (by show (if T k = true then acc else step_dedup acc k).Nodup; split <;> first | exact h | exact step_nodup h)
theorem leftI_mem (T:Int -> Bool) (x:Int) (ks:List Int):∀ (acc:List Int),x ∈ leftI T ks acc ↔ x ∈ acc ∨ (x ∈ ks ∧ T x = false):=by
 induction ks with
 | nil=>intro acc; simp [leftI]
 | cons k ks ih =>
  intro acc
  show x ∈ leftI T ks (if T k then acc else step_dedup acc k) ↔ _
  rw [ih]
  have hs:x ∈ step_dedup acc k ↔ x ∈ acc ∨ x = k:=by
   unfold step_dedup
   split
   ·rename_i h
    obtain ⟨y,hy,e⟩:=List.any_eq_true.mp h
    have:y = k:=by simpa using e
    subst this
    constructor
    ·exact .inl
    ·rintro (h | rfl)
     ·exact h
     ·exact hy
   ·simp
  cases hT:T k with
  | true =>
   simp only [if_true,List.mem_cons]
   constructor
   ·rintro (h | h)
    ·exact .inl h
    ·exact .inr ⟨.inr h.1,h.2⟩
   ·rintro (h | ⟨h | h,h2⟩)
    ·exact .inl h
    ·subst h; rw [hT] at h2; cases h2
    ·exact .inr ⟨h,h2⟩
  | false =>
   simp only [Bool.false_eq_true,if_false,List.mem_cons]
   rw [hs]
   constructor
   ·rintro ((h | h) | h)
    ·exact .inl h
    ·subst h; exact .inr ⟨.inl rfl,hT⟩
    ·exact .inr ⟨.inr h.1,h.2⟩
   ·rintro (h | ⟨h | h,h2⟩)
    ·exact .inl (.inl h)
    ·exact .inl (.inr h)
    ·exact .inr ⟨h,h2⟩
theorem perm_of_mem {a b:List Int} (ha:a.Nodup) (hb:b.Nodup) (h:∀ x,x ∈ a ↔ x ∈ b):a.Perm b:=(List.perm_ext_iff_of_nodup ha hb).mpr h
noncomputable def setOf? (σ:St) (v:V):Option (List Int):=(v.view σ).bind O.asSet
noncomputable def mDiff (a b:AM V):AM V:=do
 let x ← a
 let y ← b
 fun σ=>(setOf? σ x).bind fun ks=>(setOf? σ y).bind fun ls=>if ks.Nodup ∧ ks.length / 4 ≤ ls.length then some (.set (ks.filter fun k=>!ls.contains k),σ) else none
section
variable {c:Cx} {d:Nat} {env:Env} {K F:Heap} {R:Adrs} {σ:St} {s:Shared}
set_option tactic.hygienic true in
theorem setOf_in (S:Sim c env K F R σ s) {cv:Value} {v:V} {ks:List Int} (h:VIn c F R cv v) (k:setOf? σ v = some ks):∃ a,cv = .ref a ∧ SetL c.prog c.w s.heap a (fun k=>ks.contains k) ks.length:=by
 refine obind_elim k fun o hw e=>?_
 cases asSet_is e
 exact view_inE S h hw fun a e g _=>⟨a,e,g⟩
set_option tactic.hygienic true in
theorem rDiff (ok:EnvOK env) {l r:PySem.Expr} {pos:Pos} {ml mr:AM V} (h1:RE c d env (eval l env) ml) (h2:RE c d env (eval r env) mr):RE c d env (eval (.BinOp l .Sub r pos) env) (mDiff ml mr):=by
 refine ⟨fun A gA K F R σ s S v σ' h=>?_⟩
 refine hG9 fun P_ b_=>?_
 revert h
 refine AM.bind_elim fun x σ1 e1 h=>?_
 revert h
 refine AM.bind_elim fun y σ2 e2 h=>?_
 refine obind_elim h fun ks hx h=>obind_elim h fun ls hy h=>some_ifE h fun hc h=>?_
 obtain ⟨rfl,rfl⟩:=Prod.mk.inj h
 refine b_ ?_; clear b_ P_
 refine wpAny_BinOp (h1.go gA S e1 fun ca F1 R1 s1 X1 S1 V1=>h2.go gA S1 e2 fun cb F2 R2 s2 X2 S2 V2=>?_)
 obtain ⟨a,rfl,ga⟩:=setOf_in S2 (V1.ext X2) hx
 obtain ⟨b,rfl,gb⟩:=setOf_in S2 V2 hy
 obtain ⟨es,ep,ra,rm,rn⟩:=ga.raw
 refine wpAny_binaryOp_same (T:="set") ga.of.typeIs gb.of.typeIs PySem.F.fills_set_sub PySem.F.slot_set_sub (wpAny_call_entry PySem.F.slot_set_sub ga.of.typeIs entry_set_sub ?_ (PySem.F.args_set_sub_2 _ _))
 refine sub_body ra gb (by rw [rn]; lia) fun h' tk es' kk hp hkk hk hS=>⟨_,rfl,(by intro e; cases e),?_⟩
 have S3:=S2.up (tk:=tk) (h':=h') hk
 have O:=S2.outNew ok (Nat.le_refl s2.heap.objs.size)
 obtain ⟨F',X,y',S',_⟩:=S3.freeze (fun a=>a == s2.heap.objs.size) fun a ha=>by
  have ha:a = s2.heap.objs.size:=by simpa using ha
  subst ha
  exact ⟨O.k,fun g n o l=>O.l _ _ _ _ l rfl,O.L,O.c⟩
 have hmem:∀ k,k ∈ kk ↔ k ∈ ks:=by
  intro k
  have h3:k ∈ ks ↔ ∃ e ∈ es.toList,(intKind c.prog c.w).is k e.2 = true:=by rw [← rm k]; simp
  rw [h3]
  have h4:∀ (l:List (Int × Value)) (kk:List Int),Paired (KeyOf c.prog c.w) l kk -> (k ∈ kk ↔ ∃ e ∈ l,(intKind c.prog c.w).is k e.2 = true):=by
   intro l kk hp
   induction hp with
   | nil=>simp
   | cons h1 _ ih =>
    rw [List.mem_cons,ih]
    constructor
    ·rintro (rfl | ⟨e,he,h⟩)
     ·exact ⟨_,List.mem_cons_self,h1.1⟩
     ·exact ⟨e,List.mem_cons_of_mem _ he,h⟩
    ·rintro ⟨e,he,h⟩
     rcases List.mem_cons.mp he with rfl | he
     ·exact .inl ((intKind c.prog c.w).inj _ _ _ h h1.1)
     ·exact .inr ⟨e,he,h⟩
  rw [h4 _ _ hkk]
  exact ⟨fun q1_=>by obtain ⟨e,he,h⟩:=q1_; exact ⟨e,hp.mem_iff.mp he,h⟩,fun q1_=>by obtain ⟨e,he,h⟩:=q1_; exact ⟨e,hp.mem_iff.mpr he,h⟩⟩
 have hperm:(leftI (fun k=>ls.contains k) kk []).Perm (ks.filter fun k=>!ls.contains k):=by
  refine perm_of_mem (leftI_nodup _ _ _ .nil) (hc.1.filter _) fun x=>?_
  rw [leftI_mem,List.mem_filter,hmem]
  simp
 refine ⟨F',R2,(X1.trans X2).trans X,S',.set ((hS.congr (fun k=>?_) hperm.length_eq).keep fun o e=>(y' _ (by simp)).trans e)⟩
 have:=hperm.mem_iff (a:=k)
 rw [Bool.eq_iff_iff]
 simpa using this
noncomputable def ownS:V -> AM (List Int):=ownF O.asSet
noncomputable def mSetAdd (o e:AM V):AM V:=do
 let x ← o
 let _ ← ownS x
 let v ← e
 fun σ=>v.asInt.bind fun k=>(x.own σ).bind fun p=>p.2.2.asSet.bind fun ks=>if ks.length < 1000 then some (.none,σ.put p.1 p.2.1 (.set (step_dedup ks k))) else none
set_option tactic.hygienic true in
theorem rSetAdd {o e:PySem.Expr} {apos pos:Pos} {mo me:AM V} (h1:RE c d env (eval o env) mo) (h2:RE c d env (eval e env) me) (hb:attributeBase o (Str.ofString "add") env (eval o env) = eval o env:=by with_unfolding_all rfl) (hl:(apos.endLine == pos.line) = true:=by rfl)
  (ht:backTo pos (starEach [e] env) = [(false,eval e env)]:=by rfl):RE c d env (eval (.Call (.Attribute o (Str.ofString "add") apos) [e] [] pos) env) (mSetAdd mo me):=by
 refine ⟨fun A gA K F R σ s S v σ' h=>?_⟩
 refine hG9 fun P_ b_=>?_
 revert h
 refine AM.bind_elim fun x σ1 e1 h=>?_
 revert h
 refine AM.bind_elim fun us σ2 e2 h=>?_
 revert h
 refine AM.bind_elim fun y σ3 e3 h=>?_
 refine obind_elim h fun k hk h=>obind_elim h fun p hp h=>obind_elim h fun ks hks h=>some_ifE h fun hlen h=>?_
 obtain ⟨rfl,rfl⟩:=Prod.mk.inj h
 obtain ⟨g,n,q⟩:=p
 cases asSet_is hks
 obtain ⟨rfl,hks⟩:=own_is hp
 obtain ⟨g',n',e,hus,rfl⟩:=ownF_some asSet_is e2
 cases e
 dsimp only at hks hus
 refine b_ ?_; clear b_ P_
 refine wpAny_Call_method1_late hb hl ht (h1.go gA S e1 fun cx F1 R1 s1 X1 S1 V1=>?_)
 obtain ⟨a,rfl,ha⟩:=ref_out V1
 have L1:Live R1 σ2.sel g n a (.set us):=⟨ha,hus,by intro e; cases e⟩
 refine S1.st.ownE _ _ _ _ L1 fun _ _ W1=>?_
 have hT:s1.TypeIs (.ref a) "set":=(SetL.of W1).typeIs
 refine ⟨"set", "set.add",PySem.F.plainAttrs_set,PySem.F.slot_set_add,PySem.F.type_set_add,hT,fun b eb=>by cases eb; obtain ⟨oo,_,_,_,ho,hx,_⟩:=W1; exact ⟨oo,ho,hx.2.1⟩,?_⟩
 refine callWith_builtin rfl (evalArgs_plain (Calls.spliced_cons (h2.go gA S1 e3 fun cv F2 R2 s2 X2 S2 V2=>Calls.spliced_nil ?_)))
 have ha2:(R2.sel g)[n]? = some a:=X2.sel ha
 have L2:Live R2 σ3.sel g n a (.set ks):=⟨ha2,hks,by intro e; cases e⟩
 refine S2.st.ownE _ _ _ _ L2 fun _ _ W2=>?_
 obtain ⟨t,rfl⟩:=asInt_in V2 hk
 refine setAdd_call W2 (by show ks.length + 1 < 4096; (exact nB ‹_› (by decide))) fun h' hs hS=>?_
 refine ⟨F2,R2,X1.trans X2,S2.setOwn L2 hs ?_,.none⟩
 refine SetL.congr hS (fun k'=>step_contains _ _ _) ?_
 rw [step_length,List.any_beq']
end
noncomputable def iv (v:Value):Int:=Value.casesOn (motive:=fun _=>Int) v 0 0 0 (fun _=>0) (fun i _=>i) (fun _ _=>0) (fun _ _=>0) (fun _ _=>0) (fun _=>0) (fun _=>0) fun _=>0
theorem iv_int (i:Int) (t:Tok):iv (.int i t) = i:=rfl
noncomputable def oneTo (n:Nat):List Int:=(List.range n).map fun (i:Nat)=>(i:Int) + 1
theorem intsAre_iv {vs:List Value} (h:∀ v ∈ vs,∃ i t,v = .int i t):IntsAre vs (vs.map iv):=by
 induction vs with
 | nil=>exact .nil
 | cons v vs ih =>
  obtain ⟨i,t,rfl⟩:=h v List.mem_cons_self
  exact .cons i t (ih fun u hu=>h u (List.mem_cons_of_mem _ hu))
theorem esX_vals (ts:List Tok):(∀ e ∈ (esX ts).toList,∃ i t,e.2 = .int i t) ∧ (esX ts).toList.map (fun e=>iv e.2) = oneTo ts.length:=by
 constructor
 ·intro e he
  simp only [esX,List.mem_map] at he
  obtain ⟨x,_,rfl⟩:=he
  exact ⟨_,_,rfl⟩
 ·unfold esX oneTo
  rw [List.map_map]
  apply List.ext_getElem?
  intro i
  simp only [List.getElem?_map,List.getElem?_zipIdx,Option.map_map]
  rcases Nat.lt_or_ge i ts.length with h | h
  ·rw [List.getElem?_eq_getElem h,List.getElem?_range h]
   simp [iv_int]
  ·rw [List.getElem?_eq_none h,List.getElem?_eq_none (by simpa using h)]; rfl
theorem oneTo_sorted (n:Nat):(oneTo n).Pairwise (· ≤ ·):=by
 unfold oneTo
 rw [List.pairwise_map]
 refine (List.pairwise_lt_range).imp fun h=>?_
 lia
theorem oneTo_len (n:Nat):(oneTo n).length = n:=by simp [oneTo]
theorem intR_oneTo (n:Nat):intR 1 n = (oneTo n).map V.int:=by
 apply List.ext_getElem?
 intro i
 rcases Nat.lt_or_ge i n with h | h
 ·rw [intR_at h,List.getElem?_map]
  unfold oneTo
  rw [List.getElem?_map,List.getElem?_range h]
  show some (V.int (1 + (i:Int))) = some (V.int ((i:Int) + 1))
  rw [Int.add_comm]
 ·rw [List.getElem?_eq_none (by rw [intR_len]; exact h),List.getElem?_eq_none (by rw [List.length_map,oneTo_len]; exact h)]
noncomputable def mSortedB (m:AM V):AM V:=do
 let v ← m
 V.casesOn (motive_1:=fun _=>AM V) v failure failure (fun _=>failure) (fun _=>failure) (fun _=>failure) (fun _=>failure) (fun _=>failure) (fun _=>failure) (fun n=>if n ≤ 3 then pure (.lst (intR 1 n)) else failure) (fun _=>failure) (fun _ _=>failure) (fun _ _ _=>failure) (fun _ _=>failure)
section
variable {c:Cx} {d:Nat} {env:Env} {K F:Heap} {R:Adrs} {σ:St} {s:Shared}
theorem sorted_blk (S:Sim c env K F R σ s) (ok:EnvOK env) {A:Around} (hh:A.handled = none) {x:Value} {n:Nat} (hn:n ≤ 3) (hx:VIn c F R x (.blk n))
  {Q:Value -> Shared -> Prop} {E:Value -> Shared -> Prop} (q:∀ cv F' s',Ext K F R F' R -> Sim c env K F' R σ s' -> VIn c F' R cv (.lst (intR 1 n)) -> Q cv s'):wpAny (model c.prog c.w) A (call (.builtin "sorted") [x]) Q E s:=by
 refine hG9 fun P_ b_=>?_
 obtain ⟨a,rfl,hX⟩:=hx.inv
 obtain ⟨ts,ep,f,m,led,hlen,ho,hl⟩:=hX
 subst hlen
 have hraw:RawX c.w s.heap a ts ep:=⟨f,m,led,S.st.hF _ _ ho,hl⟩
 refine b_ ?_; clear b_ P_
 refine sorted_raw (Φ:=fun vs=>∃ ns,IntsAre vs ns ∧ ns.Perm (oneTo ts.length)) (fun vs q_=>?_) (fun A E Q hh q=>?_) hh fun A vs h' tk D P E hk hD hDg q_ hP=>?_
 ·obtain ⟨ns,h1,h2⟩:=q_
  rw [IntsAre.length h1,h2.length_eq,oneTo_len]; (exact nB ‹_› (by decide))
 ·refine collect_src (srcX a ts ep hn) hh hraw (by rw [sizeLine_eq]; (exact nB2 ‹_› (by decide))) fun h' tk acc hk hacc=>q _ h' tk hk ?_
  have hp:=ordX_perm c.w a ep (esX ts)
  have hsz:(ordX c.w a ep (esX ts)).size = ts.length:=by
   have:=hp.length_eq
   simpa [esX_size] using this
  have e:acc.toList = (ordX c.w a ep (esX ts)).toList.map (·.2):=by
   apply List.ext_getElem?
   intro i
   rw [Array.getElem?_toList,List.getElem?_map,Array.getElem?_toList]
   rcases Nat.lt_or_ge i acc.size with hi | hi
   ·rw [Array.getElem?_eq_getElem hi]
    obtain ⟨e,he,hv⟩:=hacc.2 i _ (Array.getElem?_eq_getElem hi)
    rw [he,hv]; rfl
   ·rw [Array.getElem?_eq_none hi,Array.getElem?_eq_none (by rw [hsz,← hacc.1]; exact hi)]; rfl
  have hints:∀ v ∈ acc.toList,∃ i t,v = .int i t:=by
   rw [e]
   intro v hv
   obtain ⟨x,hx,rfl⟩:=List.mem_map.mp hv
   exact (esX_vals ts).1 x (hp.mem_iff.mp hx)
  refine ⟨acc.toList.map iv,intsAre_iv hints,?_⟩
  rw [e,List.map_map,← (esX_vals ts).2]
  exact hp.map _
 ·obtain ⟨ns,h1,h2⟩:=q_
  have O:=S.outNone ok hD
  have S1:=S.up (tk:=tk) hk
  refine list_sort_tree (s:={ s with heap:=h',toks:=tk }) hDg h1 (by rw [IntsAre.length h1,h2.length_eq,oneTo_len]; (exact nB ‹_› (by decide))) fun out ns' a1 a2 a3=>?_
  have hns:ns' = oneTo ts.length:=lks_uniq (a2.trans h2) a3 (oneTo_sorted _)
  subst hns
  have keep:∀ b o,b ≠ D -> h'.get? b = some o -> (sortedHeap h' D vs out).get? b = some o:=fun b o hb e=>by
   unfold sortedHeap
   exact (Heap.SameBut.update ..).extBut b o hb (Heap.get?_push_of_some _ (Heap.get?_push_of_some _ ((Heap.SameBut.update ..).extBut b o hb e)))
  refine hG9 fun P_ b_=>?_
  obtain ⟨e1,ho1⟩:∃ e1,(h'.update D (Obj.mapSeq fun _=>(#[]:Array Value))).get? D = some (seqObj "list" #[] e1):=⟨_,get?_update_seq hDg fun _=>#[]⟩
  obtain ⟨c2,hc2⟩:∃ c2,(sortedHeap h' D vs out).get? D = some (seqObj "list" out c2):=⟨_,get?_update_seq (Heap.get?_push_of_some _ (Heap.get?_push_of_some _ ho1)) fun _=>out⟩
  have S2:=S1.buts (tk:=tk) (h':=sortedHeap h' D vs out) (wr:=[D]) ok (fun a ha=>by rw [List.mem_singleton.mp ha]; exact O) fun b o hb e=>keep b o (fun z=>hb (List.mem_singleton.mpr z)) e
  obtain ⟨F',X',S',V'⟩:=S2.newFrozen O (cvs:=out.toList) (n:=c2) (by simpa using hc2) (vs:=intR 1 ts.length) (by
   rw [intR_oneTo]
   refine VAll.of (by rw [IntsAre.length a1,List.length_map]) fun i cv v h1 h2=>?_
   rw [List.getElem?_map] at h2
   refine map_elim h2 fun k hk z2_=>?_
   subst z2_
   obtain ⟨t,rfl⟩:=IntsAre.int_at a1 i cv h1
   have:(oneTo ts.length).getD i 0 = k:=by simp [List.getD,hk]
   rw [this]
   exact .int _ _)
  refine b_ ?_; clear b_ P_
  exact hP _ (q _ F' _ X' S' V')
theorem rSortedB (G:Glo c) (ok:EnvOK env) {i:Nat} {x:Str} {p pos:Pos} {e:PySem.Expr} {m:AM V} (hi:env.scope.names[i]? = some (x,.globalImplicit)) (hn:c.mg x = none) (hv:c.mb x = some (.builtin "sorted")) (h1:RX c d env pos [e] [m])
  (hs:(backTo pos (starEach [e] env)).any (·.1) = false:=by rfl) (hs2:(backTo pos (starEach [e] env)).head? = some (false,eval e env):=by rfl):RE c d env (eval (.Call (.Name x p) [e] [] pos) env) (mSortedB m):=by
 refine ⟨fun A gA K F R σ s S v σ' h=>?_⟩
 refine hG9 fun P_ b_=>?_
 revert h
 refine AM.bind_elim fun u σ1 e1 h=>?_
 cases u with
 | blk n =>
  replace h:=AM.ite_some h
  obtain ⟨hn3,h⟩:=h
  refine some2E h fun z0_ z1_=>?_
  subst z0_
  subst z1_
  refine b_ ?_; clear b_ P_
  refine callB1 G ok hi hn hv h1 hs hs2 gA S e1 fun cv F1 R1 s1 X1 S1 a1=>?_
  exact sorted_blk S1 ok gA.1 hn3 a1 fun cv F' s' X' S' V'=>⟨F',R1,X1.trans X',S',V'⟩
 | _=>exact none_some h
end
noncomputable def whileM (test:AM Bool) (body:AM AFlow):Nat -> AM AFlow
 | 0=>failure
 | n + 1=>do
  let b ← test
  if b = true then do
   let f ← body
   match f with
   | .next=>whileM test body n
   | .cont=>whileM test body n
   | .brk=>pure .next
   | .ret u=>pure (.ret u)
  else pure .next
section
variable {c:Cx} {d:Nat} {env:Env} {K F:Heap} {R:Adrs} {σ:St} {s:Shared}
theorem whileM_succ {test:AM Bool} {body:AM AFlow} {n:Nat} {σ:St} {r:AFlow × St} (h:whileM test body (n + 1) σ = some r):Ex2 fun b σ1=>test σ = some (b,σ1) ∧ ((b = false ∧ r = (.next,σ1)) ∨ (b = true ∧ Ex2 fun f σ2=>body σ1 = some (f,σ2) ∧ ((f = .next ∨ f = .cont) ∧ whileM test body n σ2 = some r ∨ f = .brk ∧ r = (.next,σ2) ∨ ∃ u,f = .ret u ∧ r = (.ret u,σ2)))):=by
 revert h
 refine AM.bind_elim fun b σ1 e1 h=>?_
 refine ⟨b,σ1,e1,?_⟩
 cases b with
 | false=>cases h; exact .inl ⟨rfl,rfl⟩
 | true =>
  revert h
  refine AM.bind_elim fun f σ2 e2 h=>?_
  refine .inr ⟨rfl,f,σ2,e2,?_⟩
  cases f with
  | next=>exact .inl ⟨.inl rfl,h⟩
  | cont=>exact .inl ⟨.inr rfl,h⟩
  | brk=>cases h; exact .inr (.inl ⟨rfl,rfl⟩)
  | ret u=>cases h; exact .inr (.inr ⟨u,rfl,rfl⟩)
noncomputable abbrev WhInv (c:Cx) (env:Env) (mt:AM Bool) (mb:AM AFlow) (K F:Heap) (R:Adrs) (v:AFlow) (σ':St) (k:Nat) (s1:Shared):Prop:=Ex3 fun F1 R1 σ1=>And3 (Ext K F R F1 R1) (Sim c env K F1 R1 σ1 s1) (whileM mt mb k σ1 = some (v,σ'))
theorem rsWhile {test:PySem.Expr} {body:List Stmt} {pos:Pos} {mt:AM Bool} {mb:AM AFlow} {n:Nat} (ht:RT c d env test mt) (hb:RS c d env (execs body env) mb):RS c d env (exec (.While test body [] pos) env) (whileM mt mb n):=by
 refine ⟨fun A gA K F R σ s S v σ' h=>?_⟩
 refine wpAny_While (codeAny_whileLoop (WhInv c env mt mb K F R v σ') (fun k s1 hI=>?_) n ⟨F,R,σ,Ext.refl ..,S,h⟩)
 refine hG9 fun P_ b_=>?_
 obtain ⟨F1,R1,σ1,X1,S1,h1⟩:=hI
 cases k with
 | zero=>exact none_some h1
 | succ k =>
  obtain ⟨b,σ2,e1,e2⟩:=whileM_succ h1
  refine b_ ?_; clear b_ P_
  refine (ht _ rfl).go gA S1 e1 fun b' F2 R2 s2 X2 S2 hb'=>?_
  refine hG9 fun P_ b_=>?_
  subst hb'
  rcases e2 with ⟨rfl,e2⟩ | ⟨rfl,f,σ3,e3,e4⟩
  ·cases e2
   refine b_ ?_; clear b_ P_
   rw [if_neg (by simp)]
   exact wpAny_execs_nil ⟨F2,R2,X1.trans X2,S2,.next⟩
  ·refine b_ ?_; clear b_ P_
   rw [if_pos rfl]
   refine hb.go gA S2 e3 fun fl F3 R3 s3 X3 S3 V3=>?_
   refine hG9 fun P_ b_=>?_
   have X:=(X1.trans X2).trans X3
   rcases e4 with ⟨hf,e⟩ | ⟨rfl,e⟩ | ⟨u,rfl,e⟩
   ·rcases hf with rfl | rfl
    ·obtain rfl:fl = .next:=V3.inv
     refine b_ ?_; clear b_ P_
     exact ⟨k,Nat.lt_succ_self _,F3,R3,σ3,X,S3,e⟩
    ·obtain rfl:fl = .cont:=V3.inv
     refine b_ ?_; clear b_ P_
     exact ⟨k,Nat.lt_succ_self _,F3,R3,σ3,X,S3,e⟩
   ·cases e
    obtain rfl:fl = .brk:=V3.inv
    refine b_ ?_; clear b_ P_
    exact ⟨F3,R3,X,S3,.next⟩
   ·cases e
    obtain ⟨cv,rfl,q⟩:=V3.inv
    refine b_ ?_; clear b_ P_
    exact ⟨F3,R3,X,S3,.ret q⟩
noncomputable def O.byVal (o:O):Option V:=O.casesOn o none (fun vs=>some (.lst vs)) (fun _=>none) (fun es=>some (.dctT es)) (fun ks=>some (.set ks)) fun _=>none
noncomputable def frzV (v:V):AM V:=fun σ=>V.casesOn (motive_1:=fun _=>Option (V × St)) v (some (v,σ)) (some (v,σ)) (fun _=>(some (v,σ))) (fun _=>(some (v,σ))) (fun _=>(some (v,σ))) (fun _=>(some (v,σ))) (fun _=>(some (v,σ))) (fun _=>(some (v,σ))) (fun _=>(some (v,σ))) (fun _=>(some (v,σ))) (fun _ _=>(some (v,σ))) (fun g C n=>((σ.sel g)[n]?.bind (instO C)).map fun p=>(.inst p.1 p.2,σ.put g n .dead)) (fun g n=>(σ.sel g)[n]?.bind fun o=>o.byVal.map fun v=>(v,σ.put g n .dead))
noncomputable def mFrz (m:AM V):AM V:=do let v ← m; frzV v
theorem VAll.cond {g:Bool} {cvs:List Value} {vs:List V} (h:VAll c F (cond g R.glob R) cvs vs):VAll c F R cvs vs:=by
 cases g with
 | false=>exact h
 | true=>exact h.ext (Ext.ofGlob F F R)
theorem TAll.cond {g:Bool} {xs:List (List Int × Addr × Value)} {es:List (List Int × V)} (h:TAll c F (cond g R.glob R) xs es):TAll c F R xs es:=by
 cases g with
 | false=>exact h
 | true=>exact h.ext (Ext.ofGlob F F R)
theorem FAll.cond {g:Bool} {es:List DictEntry} {fs:List (Str × V)} (h:FAll c F (cond g R.glob R) es fs):FAll c F R es fs:=by
 cases g with
 | false=>exact h
 | true=>exact h.ext (Ext.ofGlob F F R)
set_option tactic.hygienic true in
theorem frz_in (S:Sim c env K F R σ s) (ok:EnvOK env) {cv:Value} {v r:V} {σ':St} (h:VIn c F R cv v) (k:frzV v σ = some (r,σ')):∃ F',And3 (Ext K F R F' R) (Sim c env K F' R σ' s) (VIn c F' R cv r):=by
 cases v with
 | ref g n =>
  obtain ⟨a,rfl,ha⟩:=ref_out h
  refine obind_elim k fun o hv k=>map_elim k fun u hu e=>?_
  obtain ⟨rfl,rfl⟩:=Prod.mk.inj e
  have L:Live R σ.sel g n a o:=⟨ha,hv,by rintro rfl; exact none_some hu⟩
  obtain ⟨_,_,W⟩:=S.st.own _ _ _ _ L
  obtain ⟨F',X,e2,S'⟩:=S.freezeOwn ok L
  refine ⟨F',X,S',?_⟩
  cases o with
  | list vs =>
   cases hu
   obtain ⟨cvs,m,g1,g2⟩:=W
   exact .lst (e2.trans g1) ((VAll.cond g2).ext X)
  | set ks =>
   cases hu
   exact .set (SetL.keep W fun o q=>e2.trans q)
  | dctT es =>
   cases hu
   obtain ⟨xs,o,des,ep,w1,w2,w3,w4,w5,w6,w7⟩:=W
   exact .dctT ⟨o,des,ep,e2.trans w1,w2,w3,w4,fun y hy=>tkey_stays (w5 y hy) X.f,w6⟩ ((TAll.cond w7).ext X)
  | _=>exact none_some hu
 | obj g C n =>
  refine map_elim k fun p hp e=>obind_elim hp fun o hv hp=>?_
  obtain ⟨rfl,rfl⟩:=Prod.mk.inj e
  cases instO_is hp
  obtain ⟨p1,p2⟩:=p
  cases hp
  obtain ⟨a,dx,rfl,g1,g2⟩:=h.inv
  have L:Live R σ.sel g n dx (.inst p2):=⟨g2,hv,by intro e; cases e⟩
  obtain ⟨_,_,es,m,w1,w2,w3⟩:=S.st.own _ _ _ _ L
  obtain ⟨F',X,e,S'⟩:=S.freezeOwn ok L
  exact ⟨F',X,S',.inst (X.f _ _ g1) (e.trans w1) ((FAll.cond w2).ext X) w3⟩
 | _=>cases k; exact ⟨F,Ext.refl ..,S,h⟩
theorem rFrz (ok:EnvOK env) {t:Sem Value} {m:AM V} (h1:RE c d env t m):RE c d env t (mFrz m):=by
 refine ⟨fun A gA K F R σ s S v σ' h=>?_⟩
 revert h
 refine AM.bind_elim fun u σ1 e1 h=>?_
 refine h1.go gA S e1 fun cv F1 R1 s1 X1 S1 V1=>?_
 obtain ⟨F',X,S',V'⟩:=frz_in S1 ok V1 h
 exact ⟨F',R1,X1.trans X,S',V'⟩
noncomputable def frzL:List V -> AM (List V)
 | []=>pure []
 | v :: vs=>do let u ← frzV v; let us ← frzL vs; pure (u :: us)
noncomputable def mFrzL (m:AM V):AM V:=do
 let v ← m
 V.casesOn (motive_1:=fun _=>AM V) v failure failure (fun _=>failure) (fun _=>failure) (fun _=>failure) (fun _=>failure) (fun vs=>do let us ← frzL vs; pure (.lst us)) (fun _=>failure) (fun _=>failure) (fun _=>failure) (fun _ _=>failure) (fun _ _ _=>failure) (fun _ _=>failure)
theorem frzL_in (ok:EnvOK env) {cvs:List Value} {vs us:List V} {F:Heap} {σ σ':St} (S:Sim c env K F R σ s) (hv:VAll c F R cvs vs) (h:frzL vs σ = some (us,σ')):∃ F',And3 (Ext K F R F' R) (Sim c env K F' R σ' s) (VAll c F' R cvs us):=by
 induction vs generalizing cvs us F σ with
 | nil=>obtain rfl:=hv.nil_inv; cases h; exact ⟨F,Ext.refl ..,S,.nil⟩
 | cons v vs ih =>
  obtain ⟨cv,dvs,rfl,h1,hr⟩:=hv.inv
  revert h
  refine AM.bind_elim fun u σ1 e1 h=>?_
  revert h
  refine AM.bind_elim fun us' σ2 e2 h=>?_
  refine some2E h fun z0_ z1_=>?_
  subst z0_
  subst z1_
  obtain ⟨F1,X1,S1,V1⟩:=frz_in S ok h1 e1
  obtain ⟨F2,X2,S2,V2⟩:=ih S1 (hr.ext X1) e2
  exact ⟨F2,X1.trans X2,S2,.cons (V1.ext X2) V2⟩
theorem rFrzL (ok:EnvOK env) {t:Sem Value} {m:AM V} (h1:RE c d env t m):RE c d env t (mFrzL m):=by
 refine ⟨fun A gA K F R σ s S v σ' h=>?_⟩
 refine hG9 fun P_ b_=>?_
 revert h
 refine AM.bind_elim fun u σ1 e1 h=>?_
 cases u with
 | lst vs =>
  revert h
  refine AM.bind_elim fun us σ2 e2 h=>?_
  refine some2E h fun z0_ z1_=>?_
  subst z0_
  subst z1_
  refine b_ ?_; clear b_ P_
  refine h1.go gA S e1 fun cv F1 R1 s1 X1 S1 V1=>?_
  obtain ⟨b,cvs,n,rfl,g1,g2⟩:=V1.inv
  obtain ⟨F',X,S',V'⟩:=frzL_in ok S1 g2 e2
  exact ⟨F',R1,X1.trans X,S',.lst (X.f _ _ g1) V'⟩
 | _=>exact none_some h
end
section
variable {c:Cx} {d:Nat} {env:Env} {K F:Heap} {R:Adrs} {σ:St} {s:Shared}
theorem rDict0I (ok:EnvOK env) {g:Bool} {pos:Pos}:RE c d env (eval (.Dict [] [] pos) env) (mAlloc g (.dctI [])):=by
 refine ⟨fun A gA K F R σ s S v σ' h=>?_⟩
 refine some2E h fun z0_ z1_=>?_
 subst z0_
 subst z1_
 refine wpAny_Dict_empty ?_
 obtain ⟨R',X,S',V'⟩:=S.alloc ok (g:=g) (q:={ cls:=.type "dict",data:=.dict #[] }) (o:=.dctI []) rfl fun h' R' e _=>⟨[],⟨_,_,_,e,⟨rfl,rfl,rfl⟩,rfl,fun e he=>by simp at he,.nil,List.nodup_nil⟩,.nil⟩
 exact ⟨F,R',X,S',V'⟩
theorem rDict0T (ok:EnvOK env) {g:Bool} {pos:Pos}:RE c d env (eval (.Dict [] [] pos) env) (mAlloc g (.dctT [])):=by
 refine ⟨fun A gA K F R σ s S v σ' h=>?_⟩
 refine some2E h fun z0_ z1_=>?_
 subst z0_
 subst z1_
 refine wpAny_Dict_empty ?_
 obtain ⟨R',X,S',V'⟩:=S.alloc ok (g:=g) (q:={ cls:=.type "dict",data:=.dict #[] }) (o:=.dctT []) rfl fun h' R' e _=>⟨[],_,_,_,e,⟨rfl,rfl,rfl⟩,rfl,rfl,fun x hx=>(by cases hx),List.nodup_nil,.nil⟩
 exact ⟨F,R',X,S',V'⟩
noncomputable def mLen (m:AM V):AM V:=do
 let v ← m
 fun σ=>(listOf? σ v).bind fun vs=>if vs.length < lid then some (.int vs.length,σ) else none
set_option tactic.hygienic true in
theorem rLen (G:Glo c) (ok:EnvOK env) {i:Nat} {x:Str} {p pos:Pos} {e:PySem.Expr} {m:AM V} (hi:env.scope.names[i]? = some (x,.globalImplicit)) (hn:c.mg x = none) (hv:c.mb x = some (.builtin "len")) (h1:RX c d env pos [e] [m])
  (hs:(backTo pos (starEach [e] env)).any (·.1) = false:=by rfl) (hs2:(backTo pos (starEach [e] env)).head? = some (false,eval e env):=by rfl):RE c d env (eval (.Call (.Name x p) [e] [] pos) env) (mLen m):=by
 refine ⟨fun A gA K F R σ s S v σ' h=>?_⟩
 refine hG9 fun P_ b_=>?_
 revert h
 refine AM.bind_elim fun u σ1 e1 h=>?_
 refine obind_elim h fun vs hvs h=>some_ifE h fun hl h=>?_
 obtain ⟨rfl,rfl⟩:=Prod.mk.inj h
 refine b_ ?_; clear b_ P_
 refine callB1 G ok hi hn hv h1 hs hs2 gA S e1 fun cv F1 R1 s1 X1 S1 a1=>?_
 refine hG9 fun P_ b_=>?_
 obtain ⟨a,cvs,n,rfl,g1,g2⟩:=listOf_in S1 a1 hvs
 have hl2:=g2.length
 refine b_ ?_; clear b_ P_
 refine call_len_list (items:=cvs.toArray) ⟨_,g1,rfl,n,rfl⟩ (by unfold lid at hl; simp only [List.size_toArray]; lia) ?_
 refine ⟨F1,R1,X1,S1.tok _,?_⟩
 rw [show ((cvs.toArray.size:Nat):Int) = (vs.length:Int) by simp [hl2]]
 exact .int _ _
noncomputable def mInt (m:AM V):AM V:=do let v ← m; fun σ=>v.asInt.map fun i=>(.int i,σ)
theorem rIntC (G:Glo c) (ok:EnvOK env) {i:Nat} {x:Str} {p pos:Pos} {e:PySem.Expr} {m:AM V} (hi:env.scope.names[i]? = some (x,.globalImplicit)) (hn:c.mg x = none) (hv:c.mb x = some (.type "int")) (h1:RX c d env pos [e] [m])
  (hs:(backTo pos (starEach [e] env)).any (·.1) = false:=by rfl) (hs2:(backTo pos (starEach [e] env)).head? = some (false,eval e env):=by rfl):RE c d env (eval (.Call (.Name x p) [e] [] pos) env) (mInt m):=by
 refine ⟨fun A gA K F R σ s S v σ' h=>?_⟩
 refine hG9 fun P_ b_=>?_
 revert h
 refine AM.bind_elim fun u σ1 e1 h=>?_
 cases u with
 | int k =>
  refine some2E h fun z0_ z1_=>?_
  subst z0_
  subst z1_
  refine b_ ?_; clear b_ P_
  refine callT1 G ok hi hn hv h1 hs hs2 gA S e1 fun cv F1 R1 s1 X1 S1 a1=>?_
  refine hG9 fun P_ b_=>?_
  obtain ⟨t,rfl⟩:=a1.inv
  refine b_ ?_; clear b_ P_
  exact call_int_int ⟨F1,R1,X1,S1,.int _ _⟩
 | _=>exact none_some h
noncomputable def sliceV (lo hi:Option Int) (vs:List V):List V:=(sliceRange (sliceBounds lo hi none vs.length).1 (sliceBounds lo hi none vs.length).2.1 (sliceBounds lo hi none vs.length).2.2).filterMap (vs[·]?)
noncomputable def mPart:Option (AM V) -> AM (Option Int)
 | none=>pure none
 | some m=>do let v ← m; match v with | .int i=>pure (some i) | _=>failure
noncomputable def mSlice (m:AM V) (lo hi:Option (AM V)):AM V:=do
 let v ← m
 let a ← mPart lo
 let b ← mPart hi
 fun σ=>(listOf? σ v).bind fun vs=>if vs.length < lid then some (.lst (sliceV a b vs),σ) else none
inductive RP (c:Cx) (d:Nat) (env:Env):Option PySem.Expr -> Option (AM V) -> Prop
 | none:RP c d env Option.none Option.none
 | some {e:PySem.Expr} {m:AM V}:RE c d env (eval e env) m -> RP c d env (Option.some e) (Option.some m)
theorem part_go {o:Option PySem.Expr} {mo:Option (AM V)} (h:RP c d env o mo) {A:Around} (gA:GoodA A d) {K F:Heap} {R:Adrs} {σ σ':St} {s:Shared} (S:Sim c env K F R σ s) {k:Option Int} (e:mPart mo σ = some (k,σ')) {Q:Value -> Shared -> Prop}
  (q:∀ cv F' R' s',Ext K F R F' R' -> Sim c env K F' R' σ' s' -> IsPart cv k -> Q cv s'):wpAny (model c.prog c.w) A (evalPart o env) Q NoE s:=by
 refine hG9 fun P_ b_=>?_
 cases h with
 | none=>refine b_ ?_; clear b_ P_; cases e; exact wpAny_pure (q _ F R s (Ext.refl ..) S .none)
 | some h1 =>
  revert e
  refine AM.bind_elim fun v σ1 e1 e=>?_
  cases v with
  | int i =>
   refine some2E e fun z0_ z1_=>?_
   subst z0_
   subst z1_
   refine b_ ?_; clear b_ P_
   exact h1.go gA S e1 fun cv F1 R1 s1 X1 S1 V1=>by obtain ⟨t,rfl⟩:=V1.inv; exact q _ F1 R1 s1 X1 S1 (.int _ _)
  | _=>exact none_some e
theorem pick_all {cvs:List Value} {vs:List V} (h:VAll c F R cvs vs) (lo hi:Option Int):VAll c F R (slicePick cvs.toArray lo hi none).toList (sliceV lo hi vs):=by
 unfold slicePick sliceV
 rw [show cvs.toArray.size = vs.length by simp [h.length]]
 generalize sliceRange _ _ _ = l
 induction l with
 | nil=>exact .nil
 | cons k l ih =>
  simp only [List.toList_toArray] at ih ⊢
  rw [List.filterMap_cons,List.filterMap_cons]
  have e:cvs.toArray[k]? = cvs[k]?:=by simp
  rw [e]
  cases hv:vs[k]? with
  | none=>rw [h.getNone hv]; exact ih
  | some v =>
   obtain ⟨cv,h1,h2⟩:=h.get hv
   rw [h1]
   exact .cons h2 ih
theorem slice_any {prog:Program} {w:World} {A:Around} {E:Value -> Shared -> Prop} {s:Shared} {env:Env} {value:PySem.Expr} {lower upper:Option PySem.Expr} {p pos:Pos} {T id:String} {Q:Value -> Shared -> Prop}
  (hl:typeLookup (.type T) "__getitem__" = pure (some (.builtin id)))
  (h:wpAny (model prog w) A (eval value env) (fun o s₁=>wpAny (model prog w) A (eval (.Slice lower upper none p) env) (fun i s₂=>s₂.TypeIs o T ∧ wpAny (model prog w) A (getItem o i) Q E s₂) E s₁) E s) :
  wpAny (model prog w) A (eval (.Subscript value (.Slice lower upper none p) pos) env) Q E s:=by
 rw [eval_Subscript]
 refine wpAny_bind (wpAny_mono h (fun o s₁ h₁=>wpAny_bind (wpAny_holding (wpAny_mono h₁ (fun i s₂ h₂=>wpAny_bind (wpAny_standAt ?_)) fun _ _ x=>x)))
  fun _ _ x=>x)
 have fin:wpAny (model prog w) A (operate [i,o] (getItem o i)) (fun r s₃=>wpAny (model prog w) A (letTemporaryGo value o r >>= fun _=>pure r) Q E s₃) E s₂ :=
  wpAny_operating (wpAny_mono h₂.2 (fun r s₃ h₃=>wpAny_bind (wpAny_letTemporaryGo (wpAny_pure h₃))) fun _ _ x=>x)
 first
  | (refine wpAny_bind ?_; rw [getitemInPython_of_ne h₂.1.not_modules]; refine wpAny_bind (wpAny_specialOf h₂.1 hl ?_); first | exact wpAny_pure (wpAny_bind fin) | exact wpAny_bind (wpAny_pure (wpAny_bind fin)) | exact wpAny_bind fin)
  | (refine wpAny_bind (wpAny_specialOf h₂.1 hl ?_); first | exact wpAny_pure (wpAny_bind fin) | exact wpAny_bind (wpAny_pure (wpAny_bind fin)) | exact wpAny_bind fin)
set_option tactic.hygienic true in
theorem rSlice (ok:EnvOK env) {value:PySem.Expr} {lower upper:Option PySem.Expr} {p pos:Pos} {m:AM V} {lo hi:Option (AM V)} (h1:RE c d env (eval value env) m) (h2:RP c d env lower lo) (h3:RP c d env upper hi) :
  RE c d env (eval (.Subscript value (.Slice lower upper none p) pos) env) (mSlice m lo hi):=by
 refine ⟨fun A gA K F R σ s S v σ' h=>?_⟩
 refine hG9 fun P_ b_=>?_
 revert h
 refine AM.bind_elim fun u σ1 e1 h=>?_
 revert h
 refine AM.bind_elim fun a σ2 e2 h=>?_
 revert h
 refine AM.bind_elim fun b σ3 e3 h=>?_
 refine obind_elim h fun vs hvs h=>some_ifE h fun hl h=>?_
 obtain ⟨rfl,rfl⟩:=Prod.mk.inj h
 refine b_ ?_; clear b_ P_
 refine slice_any list_getitem_lookup (h1.go gA S e1 fun cu F1 R1 s1 X1 S1 V1=>wpAny_Slice (part_go h2 gA S1 e2 fun ca F2 R2 s2 X2 S2 pa=>part_go h3 gA S2 e3 fun cb F3 R3 s3 X3 S3 pb=>?_))
 rw [evalPart_none]
 refine wpAny_pure ?_
 refine hG9 fun P_ b_=>?_
 obtain ⟨l,cvs,n,rfl,g1,g2⟩:=listOf_in S3 ((V1.ext X2).ext X3) hvs
 have hlen:=g2.length
 have g1':(s3.heap.push { cls:=.type "slice",data:=.fields #[ca,cb,Value.none] }).get? l = some (seqO "list" cvs n):=Heap.get?_push_of_some _ g1
 refine b_ ?_; clear b_ P_
 refine ⟨⟨_,g1',rfl⟩,wpAny_getItem_list_slice (items:=cvs.toArray) ⟨_,g1',rfl,n,rfl⟩ (Heap.IsSliceOf.new _ _ _ _) pa pb .none (by simp) ?_ (by have:=lid_line; simp only [List.size_toArray]; lia)⟩
 have S4:=S3.push (tk:=s3.toks) { cls:=.type "slice",data:=.fields #[ca,cb,Value.none] }
 have O:=S4.outNew ok (Nat.le_refl (s3.heap.push { cls:=.type "slice",data:=.fields #[ca,cb,Value.none] }).objs.size)
 have S5:=S4.push (tk:=s3.toks) { cls:=.type "list",data:=.seq (slicePick cvs.toArray a b none) }
 refine hG9 fun P_ b_=>?_
 obtain ⟨F',X',S',V'⟩:=S5.newFrozen O (cvs:=(slicePick cvs.toArray a b none).toList) (n:=0) (by simpa using Heap.get?_push_size (s3.heap.push { cls:=.type "slice",data:=.fields #[ca,cb,Value.none] }) (o:={ cls:=.type "list",data:=.seq (slicePick cvs.toArray a b none) }) rfl) (pick_all g2 a b)
 refine b_ ?_; clear b_ P_
 exact ⟨F',R3,((X1.trans X2).trans X3).trans X',S',V'⟩
end
section
variable {prog:Program} {w:World} {A:Around} {E:Value -> Shared -> Prop} {s:Shared}
theorem max_two {l:Addr} {v0 v1:Value} {n:Nat} (hl:s.heap.get? l = some (seqO "list" [v0,v1] n)) (hh:A.handled = none) {b:Bool}
  (hcmp:∀ (E:Value -> Shared -> Prop) (Q:Value -> Shared -> Prop) (s':Shared),s.heap.StaysIn s'.heap -> (∀ tk,Q (.bool b) { s' with toks:=tk }) -> wpAny (model prog w) A.in1 (richCompare .Gt v1 v0) Q E s')
  {Q:Value -> Shared -> Prop} (h:∀ h' tk,s.heap.StaysIn h' -> Q (if b = true then v1 else v0) { s with heap:=h',toks:=tk }):wpAny (model prog w) A (call (.builtin "max") [.ref l]) Q E s:=by
 have hname:(toString "max" ++ toString ".loop" : String) = "max.loop":=by decide
 have hlt:=Heap.lt_size hl
 have hL:s.heap.IsList l #[v0,v1]:=⟨_,hl,rfl,n,rfl⟩
 refine call_function_tree PySem.F.kind_max PySem.F.plain_max PySem.F.entry_max (PySem.F.args_max1 _) ?_
 show wpAny _ A.in1 (Builtin.Builtins.bindParams "max" ["key", "default"] 0 ⟨[],[]⟩ >>= _) _ _ s
 refine wpAny_bind (wpAny_of_eq (show Builtin.Builtins.bindParams "max" ["key", "default"] 0 ⟨[],[]⟩ = pure [none,none] from rfl) ?_)
 refine wpAny_bind (wpAny_pure ?_)
 refine wpAny_bind (wpAny_pyIter_list hL ?_)
 refine wpAny_bind (wpAny_newObj_type ?_)
 rw [hname]
 obtain ⟨I,hI⟩:∃ I,I = s.heap.objs.size:=⟨_,rfl⟩
 rw [← hI]
 obtain ⟨H0,hH0⟩:∃ H0,H0 = s.heap.push { cls:=.type "list_iterator",data:=.fields #[.ref l,.int 0 0] }:=⟨_,rfl⟩
 have hS0:H0.objs.size = I + 1:=by rw [hH0,Heap.size_push,hI]
 have k0:s.heap.StaysIn H0:=fun b o e=>hH0 ▸ Heap.get?_push_of_some _ e
 have hIt0:H0.IsListIter I l 0:=⟨_,hH0 ▸ hI ▸ Heap.get?_push_size _ rfl,rfl,rfl⟩
 rw [← hH0]
 have hSI:H0.objs.size ≠ I:=by rw [hS0]; exact Nat.succ_ne_self _
 have hlI:l ≠ I:=by rw [hI]; exact Nat.ne_of_lt hlt
 have hlS:l ≠ H0.objs.size:=by rw [hS0]; exact Nat.ne_of_lt (Nat.lt_succ_of_lt (hI ▸ hlt))
 have old:∀ {b o},s.heap.get? b = some o -> b ≠ I ∧ b ≠ H0.objs.size:=fun {b o} e=>by
  have:=Heap.lt_size e
  rw [← hI] at this
  exact ⟨Nat.ne_of_lt this,by rw [hS0]; exact Nat.ne_of_lt (Nat.lt_succ_of_lt this)⟩
 obtain ⟨S,hS⟩:∃ S,S = H0.objs.size:=⟨_,rfl⟩
 rw [← hS] at hSI hlS old ⊢
 have W:=Walks.list (prog:=prog) (w:=w) (A:=A.in1) hh I l hlI #[v0,v1]
 have turn:∀ (R:Result -> Shared -> Prop) (i:Nat) (v:Value) (h1:Heap) (t1:Nat) (cur:Array Value) (c:Nat),#[v0,v1][i]? = some v -> h1.IsListIter I l i -> s.heap.StaysIn h1 -> h1.get? S = some (seqO "list" cur.toList c) -> (cur = #[] ∨ (cur = #[v0,v0] ∧ v = v1)) ->
   (∀ h2 t2 c2,h2.IsListIter I l (i + 1) -> s.heap.StaysIn h2 -> h2.get? S = some (seqO "list" (if cur = #[] then [v,v] else if b = true then [v,v] else cur.toList) c2) -> codeAny (model prog w) A (.builtin "max.loop" ⟨[.ref I,.none,.ref S],[]⟩) R { s with heap:=h2,toks:=t2 }) ->
   codeAny (model prog w) A (.builtin "max.loop" ⟨[.ref I,.none,.ref S],[]⟩) R { s with heap:=h1,toks:=t1 }:=by
  intro R i v h1 t1 cur c hv hit hk hg hcur next
  have hlt2:i < #[v0,v1].size:=(Array.getElem?_eq_some_iff.mp hv).1
  refine codeAny_builtin PySem.F.entry_max_loop ?_
  rw [Around.under_plainId PySem.F.plain_max_loop _]
  show wpAny _ A.in1 (seqItems? (.ref S) >>= _) _ _ _
  refine wpAny_bind (wpAny_seqItems (s:={ s with heap:=h1,toks:=t1 }) hg rfl ?_)
  show wpAny _ A.in1 (tryCatch (pyNext (.ref I)) _ >>= _) _ _ _
  refine wpAny_bind (wpAny_tryCatch (W.item i _ _ _ hlt2 ⟨hit,_,hk _ _ hl,rfl,n,rfl⟩ fun v' h2 t2 hP hst hm=>?_))
  have hv':v' = v:=by rw [hv] at hP; cases hP; rfl
  subst hv'
  have hg2:h2.get? S = some (seqO "list" cur.toList c):=hm S _ (by simpa -iota using hSI) hg
  have hk2:s.heap.StaysIn h2:=fun b o e=>hm b o (by simpa -iota using (old e).1) (hk b o e)
  have upd:∀ (h3:Heap) (t3:Nat) (f:Array Value -> Array Value),h3.get? S = some (seqO "list" cur.toList c) -> s.heap.StaysIn h3 -> h3.IsListIter I l (i + 1) -> ∃ c2,And3 ((h3.update S (Obj.mapSeq f)).get? S = some (seqO "list" (f cur).toList c2)) (s.heap.StaysIn (h3.update S (Obj.mapSeq f))) ((h3.update S (Obj.mapSeq f)).IsListIter I l (i + 1)):=by
   intro h3 t3 f g3 k3 i3
   obtain ⟨k',hk'⟩:=mapSeq_at "list" cur.toList c f (f cur).toList (by simp -iota)
   refine ⟨k',by rw [Heap.get?_update_self _ g3 (by rw [hk']; rfl),hk'],fun b o e=>?_,i3.at fun o e=>?_⟩
   ·exact (Heap.get?_update_other _ _ (fun z:S = b=>(old e).2 z.symm)).trans (k3 b o e)
   ·exact (Heap.get?_update_other _ _ (fun z:S = I=>hSI z)).trans e
  rcases hcur with rfl | ⟨rfl,rfl⟩
  ·show wpAny _ A.in1 (updateSeq S (fun _=>#[v',v']) >>= _) _ _ _
   refine wpAny_bind ?_
   refine wpAny_updateSeq hg2 rfl ?_
   rw [hname]
   obtain ⟨c2,g3,k3,i3⟩:=upd h2 t2 (fun _=>#[v',v']) hg2 hk2 hst.1
   exact wpAny_pure ⟨plainId_quiet PySem.F.plain_max_loop _,next _ t2 c2 i3 k3 g3⟩
  ·show wpAny _ A.in1 (tryCatch (holding [v',v'] (richCompare .Gt v' v0 >>= _)) _ >>= _) _ _ _
   refine wpAny_bind (wpAny_tryCatch (wpAny_holding (wpAny_bind (hcmp _ _ { s with heap:=h2,toks:=t2 } hk2 fun tk=>?_))))
   refine wpAny_bind (wpAny_holding (wpAny_truthy_bool ?_))
   refine wpAny_bind (wpAny_letGo (wpAny_pure ?_))
   have hne:(#[v0,v0]:Array Value) ≠ #[]:=by simp -iota
   rw [if_neg hne] at next
   cases hb:b with
   | true =>
    simp -iota only [if_true]
    refine wpAny_bind ?_
    refine wpAny_updateSeq hg2 rfl (wpAny_bind (wpAny_letGo ?_))
    rw [hname]
    obtain ⟨c2,g3,k3,i3⟩:=upd h2 tk (fun _=>#[v',v']) hg2 hk2 hst.1
    exact wpAny_pure ⟨plainId_quiet PySem.F.plain_max_loop _,next _ tk c2 i3 k3 (by rw [if_pos hb]; exact g3)⟩
   | false =>
    simp -iota only [Bool.false_eq_true,if_false]
    refine wpAny_bind (wpAny_letGo ?_)
    rw [hname]
    exact wpAny_pure ⟨plainId_quiet PySem.F.plain_max_loop _,next _ tk c hst.1 hk2 (by rw [if_neg (by rw [hb]; simp -iota)]; exact hg2)⟩
 have last:∀ (R:Result -> Shared -> Prop) (v:Value) (h1:Heap) (t1 c:Nat),h1.IsListIter I l 2 -> s.heap.StaysIn h1 -> h1.get? S = some (seqO "list" [v,v] c) -> (∀ h2 t2,s.heap.StaysIn h2 -> R (.ok (.ret v)) { s with heap:=h2,toks:=t2 }) ->
   codeAny (model prog w) A (.builtin "max.loop" ⟨[.ref I,.none,.ref S],[]⟩) R { s with heap:=h1,toks:=t1 }:=by
  intro R v h1 t1 c hit hk hg hR
  refine codeAny_builtin PySem.F.entry_max_loop ?_
  rw [Around.under_plainId PySem.F.plain_max_loop _]
  show wpAny _ A.in1 (seqItems? (.ref S) >>= _) _ _ _
  refine wpAny_bind (wpAny_seqItems (s:={ s with heap:=h1,toks:=t1 }) hg rfl ?_)
  show wpAny _ A.in1 (tryCatch (pyNext (.ref I)) _ >>= _) _ _ _
  refine wpAny_bind (wpAny_tryCatch (W.done _ _ _ ⟨hit,_,hk _ _ hl,rfl,n,rfl⟩ fun h2 t2 hm=>?_))
  have hg2:h2.get? S = some (seqO "list" [v,v] c):=hm S _ (by simpa -iota using hSI) hg
  show wpAny _ A.in1 (updateSeq S (fun _=>#[]) >>= _) _ _ _
  refine wpAny_bind ?_
  refine wpAny_updateSeq hg2 rfl (wpAny_bind (wpAny_letGo (wpAny_pure ?_)))
  exact hR _ t2 fun b o e=>(Heap.get?_update_other _ _ (fun z:S = b=>(old e).2 z.symm)).trans (hm b o (by simpa -iota using (old e).1) (hk b o e))
 have hSn:(H0.push { cls:=.type "list",data:=.seq ([]:List Value).toArray }).get? S = some (seqO "list" [] 0):=hS ▸ Heap.get?_push_size _ rfl
 refine wpAny_pure ⟨plainId_quiet PySem.F.plain_max_loop _,?_⟩
 refine turn _ 0 v0 _ s.toks #[] 0 rfl (hIt0.at fun o e=>Heap.get?_push_of_some _ e) (fun b o e=>Heap.get?_push_of_some _ (k0 b o e)) hSn (.inl rfl) fun h2 t2 c2 i2 k2 g2=>?_
 rw [if_pos rfl] at g2
 refine turn _ 1 v1 h2 t2 #[v0,v0] c2 rfl i2 k2 g2 (.inr ⟨rfl,rfl⟩) fun h3 t3 c3 i3 k3 g3=>?_
 rw [if_neg (by simp -iota)] at g3
 refine last _ (if b = true then v1 else v0) h3 t3 c3 i3 k3 (by rw [g3]; cases b <;> rfl) fun h4 t4 k4=>?_
 exact h h4 t4 k4
theorem min_two {l:Addr} {v0 v1:Value} {n:Nat} (hl:s.heap.get? l = some (seqO "list" [v0,v1] n)) (hh:A.handled = none) {b:Bool}
  (hcmp:∀ (E:Value -> Shared -> Prop) (Q:Value -> Shared -> Prop) (s':Shared),s.heap.StaysIn s'.heap -> (∀ tk,Q (.bool b) { s' with toks:=tk }) -> wpAny (model prog w) A.in1 (richCompare .Lt v1 v0) Q E s')
  {Q:Value -> Shared -> Prop} (h:∀ h' tk,s.heap.StaysIn h' -> Q (if b = true then v1 else v0) { s with heap:=h',toks:=tk }):wpAny (model prog w) A (call (.builtin "min") [.ref l]) Q E s:=by
 have hname:(toString "min" ++ toString ".loop" : String) = "min.loop":=by decide
 have hlt:=Heap.lt_size hl
 have hL:s.heap.IsList l #[v0,v1]:=⟨_,hl,rfl,n,rfl⟩
 refine call_function_tree PySem.F.kind_min PySem.F.plain_min PySem.F.entry_min (PySem.F.args_min1 _) ?_
 show wpAny _ A.in1 (Builtin.Builtins.bindParams "min" ["key", "default"] 0 ⟨[],[]⟩ >>= _) _ _ s
 refine wpAny_bind (wpAny_of_eq (show Builtin.Builtins.bindParams "min" ["key", "default"] 0 ⟨[],[]⟩ = pure [none,none] from rfl) ?_)
 refine wpAny_bind (wpAny_pure ?_)
 refine wpAny_bind (wpAny_pyIter_list hL ?_)
 refine wpAny_bind (wpAny_newObj_type ?_)
 rw [hname]
 obtain ⟨I,hI⟩:∃ I,I = s.heap.objs.size:=⟨_,rfl⟩
 rw [← hI]
 obtain ⟨H0,hH0⟩:∃ H0,H0 = s.heap.push { cls:=.type "list_iterator",data:=.fields #[.ref l,.int 0 0] }:=⟨_,rfl⟩
 have hS0:H0.objs.size = I + 1:=by rw [hH0,Heap.size_push,hI]
 have k0:s.heap.StaysIn H0:=fun b o e=>hH0 ▸ Heap.get?_push_of_some _ e
 have hIt0:H0.IsListIter I l 0:=⟨_,hH0 ▸ hI ▸ Heap.get?_push_size _ rfl,rfl,rfl⟩
 rw [← hH0]
 have hSI:H0.objs.size ≠ I:=by rw [hS0]; exact Nat.succ_ne_self _
 have hlI:l ≠ I:=by rw [hI]; exact Nat.ne_of_lt hlt
 have hlS:l ≠ H0.objs.size:=by rw [hS0]; exact Nat.ne_of_lt (Nat.lt_succ_of_lt (hI ▸ hlt))
 have old:∀ {b o},s.heap.get? b = some o -> b ≠ I ∧ b ≠ H0.objs.size:=fun {b o} e=>by
  have:=Heap.lt_size e
  rw [← hI] at this
  exact ⟨Nat.ne_of_lt this,by rw [hS0]; exact Nat.ne_of_lt (Nat.lt_succ_of_lt this)⟩
 obtain ⟨S,hS⟩:∃ S,S = H0.objs.size:=⟨_,rfl⟩
 rw [← hS] at hSI hlS old ⊢
 have W:=Walks.list (prog:=prog) (w:=w) (A:=A.in1) hh I l hlI #[v0,v1]
 have turn:∀ (R:Result -> Shared -> Prop) (i:Nat) (v:Value) (h1:Heap) (t1:Nat) (cur:Array Value) (c:Nat),#[v0,v1][i]? = some v -> h1.IsListIter I l i -> s.heap.StaysIn h1 -> h1.get? S = some (seqO "list" cur.toList c) -> (cur = #[] ∨ (cur = #[v0,v0] ∧ v = v1)) ->
   (∀ h2 t2 c2,h2.IsListIter I l (i + 1) -> s.heap.StaysIn h2 -> h2.get? S = some (seqO "list" (if cur = #[] then [v,v] else if b = true then [v,v] else cur.toList) c2) -> codeAny (model prog w) A (.builtin "min.loop" ⟨[.ref I,.none,.ref S],[]⟩) R { s with heap:=h2,toks:=t2 }) ->
   codeAny (model prog w) A (.builtin "min.loop" ⟨[.ref I,.none,.ref S],[]⟩) R { s with heap:=h1,toks:=t1 }:=by
  intro R i v h1 t1 cur c hv hit hk hg hcur next
  have hlt2:i < #[v0,v1].size:=(Array.getElem?_eq_some_iff.mp hv).1
  refine codeAny_builtin PySem.F.entry_min_loop ?_
  rw [Around.under_plainId PySem.F.plain_min_loop _]
  show wpAny _ A.in1 (seqItems? (.ref S) >>= _) _ _ _
  refine wpAny_bind (wpAny_seqItems (s:={ s with heap:=h1,toks:=t1 }) hg rfl ?_)
  show wpAny _ A.in1 (tryCatch (pyNext (.ref I)) _ >>= _) _ _ _
  refine wpAny_bind (wpAny_tryCatch (W.item i _ _ _ hlt2 ⟨hit,_,hk _ _ hl,rfl,n,rfl⟩ fun v' h2 t2 hP hst hm=>?_))
  have hv':v' = v:=by rw [hv] at hP; cases hP; rfl
  subst hv'
  have hg2:h2.get? S = some (seqO "list" cur.toList c):=hm S _ (by simpa -iota using hSI) hg
  have hk2:s.heap.StaysIn h2:=fun b o e=>hm b o (by simpa -iota using (old e).1) (hk b o e)
  have upd:∀ (h3:Heap) (t3:Nat) (f:Array Value -> Array Value),h3.get? S = some (seqO "list" cur.toList c) -> s.heap.StaysIn h3 -> h3.IsListIter I l (i + 1) -> ∃ c2,And3 ((h3.update S (Obj.mapSeq f)).get? S = some (seqO "list" (f cur).toList c2)) (s.heap.StaysIn (h3.update S (Obj.mapSeq f))) ((h3.update S (Obj.mapSeq f)).IsListIter I l (i + 1)):=by
   intro h3 t3 f g3 k3 i3
   obtain ⟨k',hk'⟩:=mapSeq_at "list" cur.toList c f (f cur).toList (by simp -iota)
   refine ⟨k',by rw [Heap.get?_update_self _ g3 (by rw [hk']; rfl),hk'],fun b o e=>?_,i3.at fun o e=>?_⟩
   ·exact (Heap.get?_update_other _ _ (fun z:S = b=>(old e).2 z.symm)).trans (k3 b o e)
   ·exact (Heap.get?_update_other _ _ (fun z:S = I=>hSI z)).trans e
  rcases hcur with rfl | ⟨rfl,rfl⟩
  ·show wpAny _ A.in1 (updateSeq S (fun _=>#[v',v']) >>= _) _ _ _
   refine wpAny_bind ?_
   refine wpAny_updateSeq hg2 rfl ?_
   rw [hname]
   obtain ⟨c2,g3,k3,i3⟩:=upd h2 t2 (fun _=>#[v',v']) hg2 hk2 hst.1
   exact wpAny_pure ⟨plainId_quiet PySem.F.plain_min_loop _,next _ t2 c2 i3 k3 g3⟩
  ·show wpAny _ A.in1 (tryCatch (holding [v',v'] (richCompare .Lt v' v0 >>= _)) _ >>= _) _ _ _
   refine wpAny_bind (wpAny_tryCatch (wpAny_holding (wpAny_bind (hcmp _ _ { s with heap:=h2,toks:=t2 } hk2 fun tk=>?_))))
   refine wpAny_bind (wpAny_holding (wpAny_truthy_bool ?_))
   refine wpAny_bind (wpAny_letGo (wpAny_pure ?_))
   have hne:(#[v0,v0]:Array Value) ≠ #[]:=by simp -iota
   rw [if_neg hne] at next
   cases hb:b with
   | true =>
    simp -iota only [if_true]
    refine wpAny_bind ?_
    refine wpAny_updateSeq hg2 rfl (wpAny_bind (wpAny_letGo ?_))
    rw [hname]
    obtain ⟨c2,g3,k3,i3⟩:=upd h2 tk (fun _=>#[v',v']) hg2 hk2 hst.1
    exact wpAny_pure ⟨plainId_quiet PySem.F.plain_min_loop _,next _ tk c2 i3 k3 (by rw [if_pos hb]; exact g3)⟩
   | false =>
    simp -iota only [Bool.false_eq_true,if_false]
    refine wpAny_bind (wpAny_letGo ?_)
    rw [hname]
    exact wpAny_pure ⟨plainId_quiet PySem.F.plain_min_loop _,next _ tk c hst.1 hk2 (by rw [if_neg (by rw [hb]; simp -iota)]; exact hg2)⟩
 have last:∀ (R:Result -> Shared -> Prop) (v:Value) (h1:Heap) (t1 c:Nat),h1.IsListIter I l 2 -> s.heap.StaysIn h1 -> h1.get? S = some (seqO "list" [v,v] c) -> (∀ h2 t2,s.heap.StaysIn h2 -> R (.ok (.ret v)) { s with heap:=h2,toks:=t2 }) ->
   codeAny (model prog w) A (.builtin "min.loop" ⟨[.ref I,.none,.ref S],[]⟩) R { s with heap:=h1,toks:=t1 }:=by
  intro R v h1 t1 c hit hk hg hR
  refine codeAny_builtin PySem.F.entry_min_loop ?_
  rw [Around.under_plainId PySem.F.plain_min_loop _]
  show wpAny _ A.in1 (seqItems? (.ref S) >>= _) _ _ _
  refine wpAny_bind (wpAny_seqItems (s:={ s with heap:=h1,toks:=t1 }) hg rfl ?_)
  show wpAny _ A.in1 (tryCatch (pyNext (.ref I)) _ >>= _) _ _ _
  refine wpAny_bind (wpAny_tryCatch (W.done _ _ _ ⟨hit,_,hk _ _ hl,rfl,n,rfl⟩ fun h2 t2 hm=>?_))
  have hg2:h2.get? S = some (seqO "list" [v,v] c):=hm S _ (by simpa -iota using hSI) hg
  show wpAny _ A.in1 (updateSeq S (fun _=>#[]) >>= _) _ _ _
  refine wpAny_bind ?_
  refine wpAny_updateSeq hg2 rfl (wpAny_bind (wpAny_letGo (wpAny_pure ?_)))
  exact hR _ t2 fun b o e=>(Heap.get?_update_other _ _ (fun z:S = b=>(old e).2 z.symm)).trans (hm b o (by simpa -iota using (old e).1) (hk b o e))
 have hSn:(H0.push { cls:=.type "list",data:=.seq ([]:List Value).toArray }).get? S = some (seqO "list" [] 0):=hS ▸ Heap.get?_push_size _ rfl
 refine wpAny_pure ⟨plainId_quiet PySem.F.plain_min_loop _,?_⟩
 refine turn _ 0 v0 _ s.toks #[] 0 rfl (hIt0.at fun o e=>Heap.get?_push_of_some _ e) (fun b o e=>Heap.get?_push_of_some _ (k0 b o e)) hSn (.inl rfl) fun h2 t2 c2 i2 k2 g2=>?_
 rw [if_pos rfl] at g2
 refine turn _ 1 v1 h2 t2 #[v0,v0] c2 rfl i2 k2 g2 (.inr ⟨rfl,rfl⟩) fun h3 t3 c3 i3 k3 g3=>?_
 rw [if_neg (by simp -iota)] at g3
 refine last _ (if b = true then v1 else v0) h3 t3 c3 i3 k3 (by rw [g3]; cases b <;> rfl) fun h4 t4 k4=>?_
 exact h h4 t4 k4
end
section
variable {prog:Program} {w:World} {A:Around} {E:Value -> Shared -> Prop} {s:Shared}
theorem tup_gt {x y:Addr} {ox oy:Obj} {xs ys:List Value} {n m:Nat} {p q:Str} {t u:Tok} {Q:Value -> Shared -> Prop} (hu:A.units < cLine) (hx:s.heap.get? x = some ox) (cx:ox.cls = .type "tuple") (dx:ox.data = .seq (Value.str p t :: xs).toArray n) (hy:s.heap.get? y = some oy) (cy:oy.cls = .type "tuple") (dy:oy.data = .seq (Value.str q u :: ys).toArray m)
  (hne:p ≠ q) (h:Q (.bool (decide (q.cps.toList < p.cps.toList))) s):wpAny (model prog w) A (richCompare .Gt (.ref x) (.ref y)) Q E s:=by
 have hT:s.TypeIs (.ref x) "tuple":=⟨_,hx,cx⟩
 have hT2:s.TypeIs (.ref y) "tuple":=⟨_,hy,cy⟩
 refine wpAny_richCompare_same_or hT hT2 PySem.F.slot_tuple_gt (wpAny_call_entry PySem.F.slot_tuple_gt hT PySem.F.entry_tuple_gt ?_ (PySem.F.args_tuple_gt_2 _ _)) (.inr hu)
 show wpAny _ _ (slotArgs "__gt__" 1 ⟨[.ref x,.ref y],[]⟩ >>= _) _ _ s
 unfold slotArgs
 simp -iota only [List.isEmpty_nil,Bool.not_true,Bool.false_eq_true,↓reduceIte,List.length_cons,List.length_nil,Nat.zero_add,bne_self_eq_false]
 refine wpAny_bind (wpAny_pure ?_)
 dsimp only
 refine wpAny_bind (wpAny_isInstance hT2 (by rw [isSubtype_type]; kernel_rfl) (b:=true) ?_)
 refine wpIteF ?_
 refine wpAny_bind (wpAny_tupleItemsOf hx dx ?_)
 refine wpAny_bind (wpAny_tupleItemsOf hy dy ?_)
 rw [show (Value.str p t :: xs).toArray.toList.zip (Value.str q u :: ys).toArray.toList = (Value.str p t,Value.str q u) :: xs.zip ys by simp -iota,List.forIn_cons]
 refine wpAny_bind (wpAny_bind (wpAny_bind (wpAny_eqBool_str ?_)))
 rw [decide_eq_false hne]
 refine wpIteT ?_
 refine wpAny_bind (wpAny_rule ?_)
 refine wpAny_bind (show wpAny (model prog w) _ (richCompare .Gt (.str p t) (.str q u)) _ _ _ from PySem.P.gt_str ?_)
 refine wpAny_bind (wpAny_pure ?_)
 refine wpAny_pure ?_
 dsimp only
 refine wpAny_pure ?_
 exact wpAny_pure ⟨_,rfl,(by intro e; cases e),h⟩
theorem tup_lt {x y:Addr} {ox oy:Obj} {xs ys:List Value} {n m:Nat} {p q:Str} {t u:Tok} {Q:Value -> Shared -> Prop} (hu:A.units < cLine) (hx:s.heap.get? x = some ox) (cx:ox.cls = .type "tuple") (dx:ox.data = .seq (Value.str p t :: xs).toArray n) (hy:s.heap.get? y = some oy) (cy:oy.cls = .type "tuple") (dy:oy.data = .seq (Value.str q u :: ys).toArray m)
  (hne:p ≠ q) (h:Q (.bool (decide (p.cps.toList < q.cps.toList))) s):wpAny (model prog w) A (richCompare .Lt (.ref x) (.ref y)) Q E s:=by
 have hT:s.TypeIs (.ref x) "tuple":=⟨_,hx,cx⟩
 have hT2:s.TypeIs (.ref y) "tuple":=⟨_,hy,cy⟩
 refine wpAny_richCompare_same_or hT hT2 PySem.F.slot_tuple_lt (wpAny_call_entry PySem.F.slot_tuple_lt hT PySem.F.entry_tuple_lt ?_ (PySem.F.args_tuple_lt_2 _ _)) (.inr hu)
 show wpAny _ _ (slotArgs "__lt__" 1 ⟨[.ref x,.ref y],[]⟩ >>= _) _ _ s
 unfold slotArgs
 simp -iota only [List.isEmpty_nil,Bool.not_true,Bool.false_eq_true,↓reduceIte,List.length_cons,List.length_nil,Nat.zero_add,bne_self_eq_false]
 refine wpAny_bind (wpAny_pure ?_)
 dsimp only
 refine wpAny_bind (wpAny_isInstance hT2 (by rw [isSubtype_type]; kernel_rfl) (b:=true) ?_)
 refine wpIteF ?_
 refine wpAny_bind (wpAny_tupleItemsOf hx dx ?_)
 refine wpAny_bind (wpAny_tupleItemsOf hy dy ?_)
 rw [show (Value.str p t :: xs).toArray.toList.zip (Value.str q u :: ys).toArray.toList = (Value.str p t,Value.str q u) :: xs.zip ys by simp -iota,List.forIn_cons]
 refine wpAny_bind (wpAny_bind (wpAny_bind (wpAny_eqBool_str ?_)))
 rw [decide_eq_false hne]
 refine wpIteT ?_
 refine wpAny_bind (wpAny_rule ?_)
 refine wpAny_bind (show wpAny (model prog w) _ (richCompare .Lt (.str p t) (.str q u)) _ _ _ from PySem.P.lt_str ?_)
 refine wpAny_bind (wpAny_pure ?_)
 refine wpAny_pure ?_
 dsimp only
 refine wpAny_pure ?_
 exact wpAny_pure ⟨_,rfl,(by intro e; cases e),h⟩
end
noncomputable def sLt (p q:Str):Bool:=decide (p.cps.toList < q.cps.toList)
noncomputable def V.asStr (v:V):Option Str:=V.casesOn (motive_1:=fun _=>Option Str) v Option.none Option.none (fun _=>Option.none) (fun _=>Option.none) some (fun _=>Option.none) (fun _=>Option.none) (fun _=>Option.none) (fun _=>Option.none) (fun _=>Option.none) (fun _ _=>Option.none) (fun _ _ _=>Option.none) (fun _ _=>Option.none)
noncomputable def headS (v:V):Option Str:=V.casesOn (motive_1:=fun _=>Option Str) v none none (fun _=>none) (fun _=>none) (fun _=>none) (fun vs=>vs.head?.bind V.asStr) (fun _=>none) (fun _=>none) (fun _=>none) (fun _=>none) (fun _ _=>none) (fun _ _ _=>none) (fun _ _=>none)
noncomputable def pickT (big:Bool) (v0 v1:V):Option V:=(headS v0).bind fun p=>(headS v1).bind fun q=>if p ≠ q then some (if (if big then sLt p q else sLt q p) = true then v1 else v0) else none
noncomputable def mPick (big:Bool) (m:AM V):AM V:=do
 let v ← m
 fun σ=>(listOf? σ v).bind fun vs=>two vs fun v0 v1=>(pickT big v0 v1).map fun r=>(r,σ)
theorem pick_some {big:Bool} {σ:St} {v:V} {r:V × St} (h:((listOf? σ v).bind fun vs=>two vs fun v0 v1=>(pickT big v0 v1).map fun r=>(r,σ)) = some r) :
  Ex4 fun v0 v1 p q=>And5 (listOf? σ v = some [v0,v1]) (headS v0 = some p) (headS v1 = some q) (p ≠ q) (r = (if (if big then sLt p q else sLt q p) = true then v1 else v0,σ)):=by
 refine obind_elim h fun vs h1 h5=>?_
 obtain ⟨v0,v1,rfl,h6⟩:=two_some h5
 refine map_elim h6 fun u h7 z2_=>?_
 subst z2_
 refine obind_elim h7 fun p h2 h8=>?_
 refine obind_elim h8 fun q h3 h9=>?_
 refine some_ifE h9 fun h4 z1_=>?_
 subst z1_
 exact ⟨v0,v1,p,q,h1,h2,h3,h4,rfl⟩
section
variable {c:Cx} {d:Nat} {env:Env} {K F:Heap} {R:Adrs} {σ:St} {s:Shared}
theorem head_in {F:Heap} {R:Adrs} {cv:Value} {v:V} {p:Str} (h:VIn c F R cv v) (k:headS v = some p):Ex5 fun a o t xs n=>And4 (cv = .ref a) (F.get? a = some o) (o.cls = .type "tuple") (o.data = .seq (Value.str p t :: xs).toArray n):=by
 cases v with
 | tup vs =>
  cases vs with
  | nil=>exact none_some k
  | cons u us =>
   cases u with
   | str q =>
    cases k
    obtain ⟨a,o,cvs,n,rfl,g1,g2,g3,r⟩:=h.inv
    obtain ⟨cu,dvs,rfl,r1,r⟩:=r.inv
    obtain ⟨t,rfl⟩:=r1.inv
    exact ⟨_,_,_,_,_,rfl,g1,g2,g3⟩
   | _=>exact none_some k
 | _=>exact none_some k
theorem rMax (G:Glo c) (ok:EnvOK env) {i:Nat} {x:Str} {p pos:Pos} {e:PySem.Expr} {m:AM V} (hi:env.scope.names[i]? = some (x,.globalImplicit)) (hn:c.mg x = none) (hv:c.mb x = some (.builtin "max")) (h1:RX c d env pos [e] [m])
  (hs:(backTo pos (starEach [e] env)).any (·.1) = false:=by rfl) (hs2:(backTo pos (starEach [e] env)).head? = some (false,eval e env):=by rfl):RE c d env (eval (.Call (.Name x p) [e] [] pos) env) (mPick true m):=by
 refine ⟨fun A gA K F R σ s S v σ' h=>?_⟩
 revert h
 refine AM.bind_elim fun u σ1 e1 h=>?_
 obtain ⟨v0,v1,p0,q0,hvs,hp0,hq0,hne,hr⟩:=pick_some h
 cases hr
 refine callB1 G ok hi hn hv h1 hs hs2 gA S e1 fun cv F1 R1 s1 X1 S1 a1=>?_
 obtain ⟨l,lvs,n,rfl,g1,g2⟩:=listOf_in S1 a1 hvs
 obtain ⟨c0,c1,rfl,w0,w1⟩:=g2.inv2
 obtain ⟨a0,o0,t0,xs0,n0,rfl,f1,f2,f3⟩:=head_in w0 hp0
 obtain ⟨a2,o2,t2,xs2,n2,rfl,f4,f5,f6⟩:=head_in w1 hq0
 refine max_two g1 gA.1 (b:=sLt p0 q0) (fun E Q s' hk q=>tup_gt gA.u.in1 (hk _ _ (S1.st.hF _ _ f4)) f5 f6 (hk _ _ (S1.st.hF _ _ f1)) f2 f3 (Ne.symm hne) (q s'.toks)) fun h' tk hk=>⟨F1,R1,X1,S1.up hk,?_⟩
 show VIn c F1 R1 _ (if sLt p0 q0 = true then v1 else v0)
 split
 ·exact w1
 ·exact w0
theorem rMin (G:Glo c) (ok:EnvOK env) {i:Nat} {x:Str} {p pos:Pos} {e:PySem.Expr} {m:AM V} (hi:env.scope.names[i]? = some (x,.globalImplicit)) (hn:c.mg x = none) (hv:c.mb x = some (.builtin "min")) (h1:RX c d env pos [e] [m])
  (hs:(backTo pos (starEach [e] env)).any (·.1) = false:=by rfl) (hs2:(backTo pos (starEach [e] env)).head? = some (false,eval e env):=by rfl):RE c d env (eval (.Call (.Name x p) [e] [] pos) env) (mPick false m):=by
 refine ⟨fun A gA K F R σ s S v σ' h=>?_⟩
 revert h
 refine AM.bind_elim fun u σ1 e1 h=>?_
 obtain ⟨v0,v1,p0,q0,hvs,hp0,hq0,hne,hr⟩:=pick_some h
 cases hr
 refine callB1 G ok hi hn hv h1 hs hs2 gA S e1 fun cv F1 R1 s1 X1 S1 a1=>?_
 obtain ⟨l,lvs,n,rfl,g1,g2⟩:=listOf_in S1 a1 hvs
 obtain ⟨c0,c1,rfl,w0,w1⟩:=g2.inv2
 obtain ⟨a0,o0,t0,xs0,n0,rfl,f1,f2,f3⟩:=head_in w0 hp0
 obtain ⟨a2,o2,t2,xs2,n2,rfl,f4,f5,f6⟩:=head_in w1 hq0
 refine min_two g1 gA.1 (b:=sLt q0 p0) (fun E Q s' hk q=>tup_lt gA.u.in1 (hk _ _ (S1.st.hF _ _ f4)) f5 f6 (hk _ _ (S1.st.hF _ _ f1)) f2 f3 (Ne.symm hne) (q s'.toks)) fun h' tk hk=>⟨F1,R1,X1,S1.up hk,?_⟩
 show VIn c F1 R1 _ (if sLt q0 p0 = true then v1 else v0)
 split
 ·exact w1
 ·exact w0
end
noncomputable def sumI (ns:List Int):Int:=preSum (fun i=>ns.getD i 0) ns.length
noncomputable def mSum (m:AM V):AM V:=do
 let v ← m
 fun σ=>(listOf? σ v).bind fun vs=>(intsOf vs).map fun ns=>(.int (sumI ns),σ)
noncomputable def mListC (out:St -> Option Bool) (m:AM V):AM V:=do
 let v ← m
 fun σ=>(listOf? σ v).bind fun vs=>(if vs.length < lid then some () else none).bind fun _=>mOut out vs σ
noncomputable def O.asDctI (o:O):Option (List (Int × V)):=O.casesOn o none (fun _=>none) some (fun _=>none) (fun _=>none) fun _=>none
noncomputable def ownDI:V -> AM (List (Int × V)):=ownF O.asDctI
noncomputable def mGet2 (o k e:AM V):AM V:=do
 let x ← o
 let _ ← ownDI x
 let i ← k
 let dflt ← e
 let es ← ownDI x
 fun σ=>i.asInt.map fun j=>((getK es j).getD dflt,σ)
section
variable {c:Cx} {d:Nat} {env:Env} {K F:Heap} {R:Adrs} {σ:St} {s:Shared}
set_option tactic.hygienic true in
theorem ownDI_some {x:V} {σ:St} {r:List (Int × V) × St} (h:ownDI x σ = some r):Ex2 fun g n=>And3 (x = .ref g n) ((σ.sel g)[n]? = some (.dctI r.1)) (r.2 = σ):=by
 refine ownF_some (fun {o a} h=>?_) h
 cases o with
 | dctI us=>exact congrArg O.dctI (Option.some.inj h)
 | _=>exact none_some h
theorem ownDI_in (S:Sim c env K F R σ s) {cx:Value} {g:Bool} {n:Nat} {es:List (Int × V)} (h:VIn c F R cx (.ref g n)) (e:(σ.sel g)[n]? = some (.dctI es)):Ex2 fun a xs=>And4 (cx = .ref a) (K.get? a = none) (s.heap.DictOf c.ik a xs) (IAll c F R xs es):=by
 refine hG9 fun P_ b_=>?_
 obtain ⟨a,rfl,ha⟩:=ref_out h
 obtain ⟨k,_,xs,h1,h2⟩:=S.st.own _ _ _ _ ⟨ha,e,by intro e; cases e⟩
 refine b_ ?_; clear b_ P_
 refine ⟨a,xs,rfl,k,h1,?_⟩
 cases g with
 | false=>exact h2
 | true=>exact h2.ext (Ext.ofGlob K F R)
set_option tactic.hygienic true in
theorem rSum (G:Glo c) (ok:EnvOK env) {i:Nat} {x:Str} {p pos:Pos} {e:PySem.Expr} {m:AM V} (hi:env.scope.names[i]? = some (x,.globalImplicit)) (hn:c.mg x = none) (hv:c.mb x = some (.builtin "sum")) (h1:RX c d env pos [e] [m])
  (hs:(backTo pos (starEach [e] env)).any (·.1) = false:=by rfl) (hs2:(backTo pos (starEach [e] env)).head? = some (false,eval e env):=by rfl):RE c d env (eval (.Call (.Name x p) [e] [] pos) env) (mSum m):=by
 refine ⟨fun A gA K F R σ s S v σ' h=>?_⟩
 refine hG9 fun P_ b_=>?_
 revert h
 refine AM.bind_elim fun u σ1 e1 h=>?_
 refine obind_elim h fun vs hvs h=>map_elim h fun ns hns h=>?_
 cases h
 refine b_ ?_; clear b_ P_
 refine callB1 G ok hi hn hv h1 hs hs2 gA S e1 fun cv F1 R1 s1 X1 S1 a1=>?_
 obtain ⟨a,lvs,n,rfl,g1,g2⟩:=listOf_in S1 a1 hvs
 have hI:=ints_at g2 hns
 have hlt:=Heap.lt_size g1
 refine call_sum_walkAnyS (wpAny_pyIter_list ⟨_,g1,rfl,n,rfl⟩ ⟨_,_,_,_,_,_,_,fun i=>ns.getD i 0,rfl,(Walks.list (by exact gA.1) _ a (Nat.ne_of_lt hlt) lvs.toArray).toS,⟨⟨_,Heap.get?_push_size _ rfl,rfl,rfl⟩,⟨_,Heap.get?_push_of_some _ g1,rfl,n,rfl⟩⟩,fun b hb=>?_,fun i v hv=>IntsAre.int_at hI i v (by simpa using hv),fun s' t' hm=>?_⟩)
 ·show b < (s1.heap.push _).objs.size
  rw [Heap.size_push]
  rcases List.mem_cons.mp hb with rfl | hb
  ·skip
   exact Nat.lt_succ_self _
  ·skip
   rw [List.mem_singleton.mp hb]; exact Nat.lt_succ_of_lt hlt
 ·have e:sumI ns = preSum (fun i=>ns.getD i 0) lvs.toArray.size:=by
   have:=IntsAre.length hI
   unfold sumI
   simp [this]
  rw [e]
  have O:=S1.outNew ok (Nat.le_refl s1.heap.objs.size)
  have S2:=S1.push (tk:=s1.toks) { cls:=.type "list_iterator",data:=.fields #[.ref a,.int 0 0] }
  have hk:=hm.heap
  rw [Moved.eq_with hm]
  refine ⟨F1,R1,X1,?_,.int _ _⟩
  exact S2.buts (tk:=s'.toks) (h':=s'.heap) (wr:=[s1.heap.objs.size]) ok (fun a ha=>by rw [List.mem_singleton.mp ha]; exact O) fun b o hb e=>hk b o hb e
set_option tactic.hygienic true in
theorem rListC (G:Glo c) (ok:EnvOK env) {out:St -> Option Bool} {i:Nat} {x:Str} {p pos:Pos} {e:PySem.Expr} {m:AM V} (hi:env.scope.names[i]? = some (x,.globalImplicit)) (hn:c.mg x = none) (hv:c.mb x = some (.type "list")) (h1:RX c d env pos [e] [m])
  (hs:(backTo pos (starEach [e] env)).any (·.1) = false:=by rfl) (hs2:(backTo pos (starEach [e] env)).head? = some (false,eval e env):=by rfl):RE c d env (eval (.Call (.Name x p) [e] [] pos) env) (mListC out m):=by
 refine ⟨fun A gA K F R σ s S v σ' h=>?_⟩
 refine hG9 fun P_ b_=>?_
 revert h
 refine AM.bind_elim fun u σ1 e1 h=>?_
 refine obind_elim h fun vs hvs h=>obind_elim h fun _ hl h=>some_ifE hl fun hl _=>?_
 refine b_ ?_; clear b_ P_
 refine callT1 G ok hi hn hv h1 hs hs2 gA S e1 fun cv F1 R1 s1 X1 S1 a1=>?_
 obtain ⟨a,lvs,n,rfl,g1,g2⟩:=listOf_in S1 a1 hvs
 refine call_list_seq a (T:="list") (.inl rfl) g1 rfl rfl (fun h' c' hk hD=>?_) (by have:=g2.length; have:=lid_line; simp only [List.size_toArray]; lia)
 have O:=S1.outNew ok (Nat.le_refl s1.heap.objs.size)
 have S2:=S1.up (tk:=s1.toks) (h':=h') hk
 obtain ⟨F4,R4,X4,S4,V4⟩:=out_list S2 O (cvs:=lvs) (n:=c') hD g2 h
 exact ⟨F4,R4,X1.trans X4,S4,V4⟩
theorem rGet2 (G:Glo c) {o k e:PySem.Expr} {apos pos:Pos} {mo mk me:AM V} (h1:RE c d env (eval o env) mo) (h2:RE c d env (eval k env) mk) (h3:RE c d env (eval e env) me) (hb:attributeBase o (Str.ofString "get") env (eval o env) = eval o env:=by with_unfolding_all rfl) (hl:(apos.endLine == pos.line) = true:=by rfl)
  (ht:backTo pos (starEach [k,e] env) = [(false,eval k env),(false,eval e env)]:=by rfl):RE c d env (eval (.Call (.Attribute o (Str.ofString "get") apos) [k,e] [] pos) env) (mGet2 mo mk me):=by
 refine ⟨fun A gA K F R σ s S v σ' h=>?_⟩
 refine hG9 fun P_ b_=>?_
 revert h
 refine AM.bind_elim fun x σ1 e1 h=>?_
 revert h
 refine AM.bind_elim fun us σ2 e2 h=>?_
 revert h
 refine AM.bind_elim fun y σ3 e3 h=>?_
 revert h
 refine AM.bind_elim fun z σ4 e4 h=>?_
 revert h
 refine AM.bind_elim fun es σ5 e5 h=>?_
 replace e2:=ownDI_some e2
 obtain ⟨g,n,rfl,e2,rfl⟩:=e2
 replace e5:=ownDI_some e5
 obtain ⟨g',n',q,e5,rfl⟩:=e5
 cases q
 cases y with
 | int j =>
  refine some2E h fun z0_ z1_=>?_
  subst z0_
  subst z1_
  refine b_ ?_; clear b_ P_
  refine wpAny_Call_method2_late hb hl ht (h1.go gA S e1 fun cx F1 R1 s1 X1 S1 V1=>?_)
  obtain ⟨a,xs,rfl,hK,hd,_⟩:=ownDI_in S1 V1 e2
  have hT:s1.TypeIs (.ref a) "dict":=hd.typeIs
  refine ⟨"dict", "dict.get",PySem.F.plainAttrs_dict,PySem.F.slot_dict_get,PySem.F.type_dict_get,hT,fun b eb=>by cases eb; obtain ⟨oo,_,_,ho,hx,_⟩:=hd; exact ⟨oo,ho,hx.2.1⟩,?_⟩
  refine wpAny_dict_get2 (knd:=c.ik) (S1.sysMods G.sys hK) (h2.go gA S1 e3 fun ck F2 R2 s2 X2 S2 V2=>h3.go gA S2 e4 fun cv F3 R3 s3 X3 S3 V3=>?_)
  refine hG9 fun P_ b_=>?_
  obtain ⟨a',xs',q,_,hd',hI⟩:=ownDI_in S3 ((V1.ext X2).ext X3) e5
  cases q
  obtain ⟨t,rfl⟩:=V2.inv
  refine b_ ?_; clear b_ P_
  refine ⟨j,valueAt xs',intKind_is _ _ _ _,hd'.mapOf,F3,R3,(X1.trans X2).trans X3,S3.tok _,?_⟩
  obtain ⟨h4,h5⟩:=hI.get j
  cases hg:getK es j with
  | some v =>
   obtain ⟨cv',h6,h7⟩:=h4 v hg
   rw [h6]; exact h7
  | none=>rw [h5 hg]; exact V3
 | _=>exact none_some h
end
noncomputable def stm (n:Nat):Stmt:=(PySem.Challenge.pw_sa0172_01.main.body.drop n).headD (.Pass ⟨0,0,0,0⟩)
noncomputable def funcOf {α:Type} (d:α) (f:Arguments -> List Stmt -> Scope -> α) (g:List Stmt -> α) (s:Stmt):α:=Stmt.casesOn (motive_2:=fun _=>α) s (fun _ a b _ _ _ c _ _ _=>f a b c) (fun _ _ _ _ _ _ _ _ _ _=>d) (fun _ _ _ b _ _ _ _ _ _ _=>g b) (fun _ _=>d) (fun _ _=>d) (fun _ _ _=>d) (fun _ _ _ _ _ _ _=>d) (fun _ _ _ _=>d) (fun _ _ _ _ _=>d) (fun _ _ _ _ _=>d) (fun _ _ _ _ _=>d) (fun _ _ _ _=>d) (fun _ _ _ _=>d) (fun _ _ _=>d) (fun _ _ _=>d) (fun _ _ _=>d) (fun _ _ _=>d) (fun _ _ _ _ _=>d) (fun _ _ _ _ _=>d) (fun _ _ _=>d) (fun _ _=>d) (fun _ _ _ _=>d) (fun _ _=>d) (fun _ _=>d) (fun _ _=>d) (fun _=>d) (fun _=>d) (fun _=>d)
noncomputable def bodyOf:Stmt -> List Stmt:=funcOf [] (fun _ b _=>b) fun b=>b
noncomputable def scopeOf:Stmt -> Scope:=funcOf { kind:=.function,names:=[],isGenerator:=false,isCoroutine:=false } (fun _ _ c=>c) fun _=>{ kind:=.function,names:=[],isGenerator:=false,isCoroutine:=false }
noncomputable def argsOf:Stmt -> Arguments:=funcOf { posonlyargs:=[],args:=[],vararg:=none,kwonlyargs:=[],kw_defaults:=[],kwarg:=none,defaults:=[] } (fun a _ _=>a) fun _=>{ posonlyargs:=[],args:=[],vararg:=none,kwonlyargs:=[],kw_defaults:=[],kwarg:=none,defaults:=[] }
noncomputable def fdO (n q:Str) (s:Stmt) (m:Value) (c:Addr):FuncData:={ name:=n,qualname:=q,params:=argsOf s,body:=.stmts (bodyOf s),scope:=scopeOf s,globals:=3,closure:=[],defaults:=.none,kwdefaults:=.none,doc:=.none,pyModule:=m,annotations:=none,code:=.ref c,closureTuple:=.none,builtins:=0 }
noncomputable def body_reg:List Stmt:=bodyOf (stm 2)
noncomputable def fd_reg:FuncData:=fdO "reg" "reg" (stm 2) (Value.str (Str.ofString "corecc.code") 187) 20
noncomputable def body_num:List Stmt:=bodyOf (stm 3)
noncomputable def fd_num:FuncData:=fdO "num" "num" (stm 3) (Value.str (Str.ofString "corecc.code") 187) 27
noncomputable def body_Step_init:List Stmt:=bodyOf ((bodyOf (stm 4)).headD (.Pass ⟨0,0,0,0⟩))
noncomputable def fd_Step_init:FuncData:=fdO "__init__" "Step.__init__" ((bodyOf (stm 4)).headD (.Pass ⟨0,0,0,0⟩)) (Value.str (Str.ofString "corecc.code") 187) 41
noncomputable def body_Block_init:List Stmt:=bodyOf ((bodyOf (stm 5)).headD (.Pass ⟨0,0,0,0⟩))
noncomputable def fd_Block_init:FuncData:=fdO "__init__" "Block.__init__" ((bodyOf (stm 5)).headD (.Pass ⟨0,0,0,0⟩)) (Value.str (Str.ofString "corecc.code") 187) 62
noncomputable def body_Func_init:List Stmt:=bodyOf ((bodyOf (stm 6)).headD (.Pass ⟨0,0,0,0⟩))
noncomputable def fd_Func_init:FuncData:=fdO "__init__" "Func.__init__" ((bodyOf (stm 6)).headD (.Pass ⟨0,0,0,0⟩)) (Value.str (Str.ofString "corecc.code") 187) 83
noncomputable def body_Loop_init:List Stmt:=bodyOf ((bodyOf (stm 8)).headD (.Pass ⟨0,0,0,0⟩))
noncomputable def fd_Loop_init:FuncData:=fdO "__init__" "Loop.__init__" ((bodyOf (stm 8)).headD (.Pass ⟨0,0,0,0⟩)) (Value.str (Str.ofString "corecc.flow") 308) 104
noncomputable def body_in_place_of:List Stmt:=bodyOf (stm 9)
noncomputable def fd_in_place_of:FuncData:=fdO "in_place_of" "in_place_of" (stm 9) (Value.str (Str.ofString "corecc.flow") 308) 118
noncomputable def body_steps_in:List Stmt:=bodyOf (stm 11)
noncomputable def fd_steps_in:FuncData:=fdO "steps_in" "steps_in" (stm 11) (Value.str (Str.ofString "corecc.loops") 355) 125
noncomputable def body_sum_with:List Stmt:=bodyOf (stm 12)
noncomputable def fd_sum_with:FuncData:=fdO "sum_with" "sum_with" (stm 12) (Value.str (Str.ofString "corecc.loops") 355) 132
noncomputable def body_growth_at:List Stmt:=bodyOf (stm 13)
noncomputable def fd_growth_at:FuncData:=fdO "growth_at" "growth_at" (stm 13) (Value.str (Str.ofString "corecc.loops") 355) 139
noncomputable def body_counters_of:List Stmt:=bodyOf (stm 14)
noncomputable def fd_counters_of:FuncData:=fdO "counters_of" "counters_of" (stm 14) (Value.str (Str.ofString "corecc.loops") 355) 146
noncomputable def body_product_of:List Stmt:=bodyOf (stm 15)
noncomputable def fd_product_of:FuncData:=fdO "product_of" "product_of" (stm 15) (Value.str (Str.ofString "corecc.loops") 355) 153
noncomputable def body_products_in:List Stmt:=bodyOf (stm 16)
noncomputable def fd_products_in:FuncData:=fdO "products_in" "products_in" (stm 16) (Value.str (Str.ofString "corecc.loops") 355) 158
noncomputable def body_grown_along:List Stmt:=bodyOf (stm 17)
noncomputable def fd_grown_along:FuncData:=fdO "grown_along" "grown_along" (stm 17) (Value.str (Str.ofString "corecc.loops") 355) 165
noncomputable def body_held_counters:List Stmt:=bodyOf (stm 18)
noncomputable def fd_held_counters:FuncData:=fdO "held_counters" "held_counters" (stm 18) (Value.str (Str.ofString "corecc.loops") 355) 170
noncomputable def body_additions_for:List Stmt:=bodyOf (stm 19)
noncomputable def fd_additions_for:FuncData:=fdO "additions_for" "additions_for" (stm 19) (Value.str (Str.ofString "corecc.loops") 355) 177
noncomputable def body_multiply_ahead:List Stmt:=bodyOf (stm 20)
noncomputable def fd_multiply_ahead:FuncData:=fdO "multiply_ahead" "multiply_ahead" (stm 20) (Value.str (Str.ofString "corecc.loops") 355) 184
noncomputable def body_law_draw:List Stmt:=bodyOf (stm 23)
noncomputable def fd_law_draw:FuncData:=fdO "_law_draw" "_law_draw" (stm 23) (Value.str (Str.ofString "law_sa0172_01") 468) 191
noncomputable def body_law_kind:List Stmt:=bodyOf (stm 24)
noncomputable def fd_law_kind:FuncData:=fdO "_law_kind" "_law_kind" (stm 24) (Value.str (Str.ofString "law_sa0172_01") 468) 198
noncomputable def body_law_parts:List Stmt:=bodyOf (stm 25)
noncomputable def fd_law_parts:FuncData:=fdO "_law_parts" "_law_parts" (stm 25) (Value.str (Str.ofString "law_sa0172_01") 468) 203
noncomputable def body_law_made:List Stmt:=bodyOf (stm 26)
noncomputable def fd_law_made:FuncData:=fdO "_law_made" "_law_made" (stm 26) (Value.str (Str.ofString "law_sa0172_01") 468) 208
noncomputable def body_law_sum:List Stmt:=bodyOf (stm 27)
noncomputable def fd_law_sum:FuncData:=fdO "_law_sum" "_law_sum" (stm 27) (Value.str (Str.ofString "law_sa0172_01") 468) 215
noncomputable def body_law_growths:List Stmt:=bodyOf (stm 28)
noncomputable def fd_law_growths:FuncData:=fdO "_law_growths" "_law_growths" (stm 28) (Value.str (Str.ofString "law_sa0172_01") 468) 222
noncomputable def body_law_pair:List Stmt:=bodyOf (stm 29)
noncomputable def fd_law_pair:FuncData:=fdO "_law_pair" "_law_pair" (stm 29) (Value.str (Str.ofString "law_sa0172_01") 468) 229
noncomputable def body_law_pairs:List Stmt:=bodyOf (stm 30)
noncomputable def fd_law_pairs:FuncData:=fdO "_law_pairs" "_law_pairs" (stm 30) (Value.str (Str.ofString "law_sa0172_01") 468) 236
noncomputable def body_law_do:List Stmt:=bodyOf (stm 31)
noncomputable def fd_law_do:FuncData:=fdO "_law_do" "_law_do" (stm 31) (Value.str (Str.ofString "law_sa0172_01") 468) 241
noncomputable def body_law_due:List Stmt:=bodyOf (stm 32)
noncomputable def fd_law_due:FuncData:=fdO "_law_due" "_law_due" (stm 32) (Value.str (Str.ofString "law_sa0172_01") 468) 246
noncomputable def body_law_is_kept:List Stmt:=bodyOf (stm 33)
noncomputable def fd_law_is_kept:FuncData:=fdO "_law_is_kept" "_law_is_kept" (stm 33) (Value.str (Str.ofString "law_sa0172_01") 468) 251
noncomputable def body_law:List Stmt:=bodyOf (stm 34)
noncomputable def fd_law:FuncData:=fdO "law" "law" (stm 34) (Value.str (Str.ofString "law_sa0172_01") 468) 256
noncomputable def kd (P:Params) (n:Str) (t:Tok) (v:Value):DictEntry:=⟨PyData.keyHash P n,.str n t,v⟩
noncomputable def clsO (C ns:Addr) (n:Str) (t u:Tok):Obj:={ cls:=.type "type",dict:=none,data:=.cls { name:=n,bases:=[.type "object"],mro:=[.ref C,.type "object"],ns:=ns,qualname:=n },slots:=#[none,none,some (.str n t),some (.str n u),some (.builtin "object.__new__"),some (.bool true)] }
noncomputable def frK (P:Params):Frag:=[
 (3,⟨.type "dict",none,.dict #[kd P "__name__" 165 (.str "law_sa0172_01" 468),kd P "__doc__" 166 .none,kd P "__package__" 167 .none,kd P "__loader__" 168 (.builtin "__main__.__loader__#opaque"),kd P "__spec__" 169 .none,kd P "__annotations__" 170 (.ref 6),kd P "__builtins__" 171 (.ref 4),kd P "__file__" 173 (.str "/claim/cut.py" 172),kd P "__cached__" 174 .none,kd P "MASK" 190 (.int 4294967295 189),kd P "reg" 197 (.ref 21),kd P "num" 204 (.ref 28),kd P "Step" 241 (.ref 45),kd P "Block" 272 (.ref 66),kd P "Func" 307 (.ref 87),kd P "Loop" 342 (.ref 108),kd P "in_place_of" 354 (.ref 119),kd P "steps_in" 368 (.ref 126),kd P "sum_with" 378 (.ref 133),kd P "growth_at" 389 (.ref 140),kd P "counters_of" 402 (.ref 147),kd P "product_of" 412 (.ref 154),kd P "products_in" 418 (.ref 159),kd P "grown_along" 434 (.ref 166),kd P "held_counters" 440 (.ref 171),kd P "additions_for" 453 (.ref 178),kd P "multiply_ahead" 467 (.ref 185),kd P "_law_ALL" 471 (.int 4294967296 470),kd P "_law_draw" 481 (.ref 192),kd P "_law_kind" 493 (.ref 199),kd P "_law_parts" 499 (.ref 204),kd P "_law_made" 505 (.ref 209),kd P "_law_sum" 513 (.ref 216),kd P "_law_growths" 530 (.ref 223),kd P "_law_pair" 540 (.ref 230),kd P "_law_pairs" 554 (.ref 237),kd P "_law_do" 560 (.ref 242),kd P "_law_due" 566 (.ref 247),kd P "_law_is_kept" 572 (.ref 252),kd P "law" 578 (.ref 257)] 40,#[]⟩),
 (21,⟨.type "function",none,.func fd_reg,#[]⟩),
 (28,⟨.type "function",none,.func fd_num,#[]⟩),
 (42,⟨.type "function",none,.func fd_Step_init,#[]⟩),
 (63,⟨.type "function",none,.func fd_Block_init,#[]⟩),
 (84,⟨.type "function",none,.func fd_Func_init,#[]⟩),
 (105,⟨.type "function",none,.func fd_Loop_init,#[]⟩),
 (119,⟨.type "function",none,.func fd_in_place_of,#[]⟩),
 (126,⟨.type "function",none,.func fd_steps_in,#[]⟩),
 (133,⟨.type "function",none,.func fd_sum_with,#[]⟩),
 (140,⟨.type "function",none,.func fd_growth_at,#[]⟩),
 (147,⟨.type "function",none,.func fd_counters_of,#[]⟩),
 (154,⟨.type "function",none,.func fd_product_of,#[]⟩),
 (159,⟨.type "function",none,.func fd_products_in,#[]⟩),
 (166,⟨.type "function",none,.func fd_grown_along,#[]⟩),
 (171,⟨.type "function",none,.func fd_held_counters,#[]⟩),
 (178,⟨.type "function",none,.func fd_additions_for,#[]⟩),
 (185,⟨.type "function",none,.func fd_multiply_ahead,#[]⟩),
 (192,⟨.type "function",none,.func fd_law_draw,#[]⟩),
 (199,⟨.type "function",none,.func fd_law_kind,#[]⟩),
 (204,⟨.type "function",none,.func fd_law_parts,#[]⟩),
 (209,⟨.type "function",none,.func fd_law_made,#[]⟩),
 (216,⟨.type "function",none,.func fd_law_sum,#[]⟩),
 (223,⟨.type "function",none,.func fd_law_growths,#[]⟩),
 (230,⟨.type "function",none,.func fd_law_pair,#[]⟩),
 (237,⟨.type "function",none,.func fd_law_pairs,#[]⟩),
 (242,⟨.type "function",none,.func fd_law_do,#[]⟩),
 (247,⟨.type "function",none,.func fd_law_due,#[]⟩),
 (252,⟨.type "function",none,.func fd_law_is_kept,#[]⟩),
 (257,⟨.type "function",none,.func fd_law,#[]⟩),
 (45,clsO 45 44 "Step" 205 213),
 (44,⟨.type "dict",none,.dict #[kd P "__module__" 212 (.str "corecc.code" 187),kd P "__firstlineno__" 216 (.int 7 215),kd P "__init__" 227 (.ref 42),kd P "__static_attributes__" 234 (.ref 43),kd P "__dict__" 236 (.ref 46),kd P "__weakref__" 238 (.ref 47),kd P "__doc__" 239 .none] 4,#[]⟩),
 (66,clsO 66 65 "Block" 242 250),
 (65,⟨.type "dict",none,.dict #[kd P "__module__" 249 (.str "corecc.code" 187),kd P "__firstlineno__" 253 (.int 16 252),kd P "__init__" 261 (.ref 63),kd P "__static_attributes__" 265 (.ref 64),kd P "__dict__" 267 (.ref 67),kd P "__weakref__" 269 (.ref 68),kd P "__doc__" 270 .none] 4,#[]⟩),
 (87,clsO 87 86 "Func" 273 281),
 (86,⟨.type "dict",none,.dict #[kd P "__module__" 280 (.str "corecc.code" 187),kd P "__firstlineno__" 284 (.int 22 283),kd P "__init__" 292 (.ref 84),kd P "__static_attributes__" 300 (.ref 85),kd P "__dict__" 302 (.ref 88),kd P "__weakref__" 304 (.ref 89),kd P "__doc__" 305 .none] 4,#[]⟩),
 (108,clsO 108 107 "Loop" 310 318),
 (107,⟨.type "dict",none,.dict #[kd P "__module__" 317 (.str "corecc.flow" 308),kd P "__firstlineno__" 321 (.int 33 320),kd P "__init__" 331 (.ref 105),kd P "__static_attributes__" 335 (.ref 106),kd P "__dict__" 337 (.ref 109),kd P "__weakref__" 339 (.ref 110),kd P "__doc__" 340 .none] 4,#[]⟩)]
noncomputable def frA:List Addr:=[3,21,28,42,63,84,105,119,126,133,140,147,154,159,166,171,178,185,192,199,204,209,216,223,230,237,242,247,252,257,45,44,66,65,87,86,108,107]
noncomputable def codesL:List (Addr × Str):=[(20, "reg"),(27, "num"),(41, "Step.__init__"),(62, "Block.__init__"),(83, "Func.__init__"),(104, "Loop.__init__"),(118, "in_place_of"),(125, "steps_in"),(132, "sum_with"),(139, "growth_at"),(146, "counters_of"),(153, "product_of"),(158, "products_in"),(165, "grown_along"),(170, "held_counters"),(177, "additions_for"),(184, "multiply_ahead"),(191, "_law_draw"),(198, "_law_kind"),(203, "_law_parts"),(208, "_law_made"),(215, "_law_sum"),(222, "_law_growths"),(229, "_law_pair"),(236, "_law_pairs"),(241, "_law_do"),(246, "_law_due"),(251, "_law_is_kept"),(256, "law")]
noncomputable def viewP:Program:={ PySem.Challenge.rw_sa0172_01.row.prog with main:={ PySem.Challenge.rw_sa0172_01.row.prog.main with body:=[1,2,3,4,5,6,8,9,11,12,13,14,15,16,17,18,19,20,22,23,24,25,26,27,28,29,30,31,32,33,34].map stm } }
noncomputable def fldOf (d:Data):Option (Array Value):=Data.casesOn (motive:=fun _=>Option (Array Value)) d none (fun _=>none) (fun _ _=>none) (fun _ _=>none) (fun _ _ _=>none) (fun _ _=>none) (fun _=>none) (fun _=>none) (fun _=>none) some none
noncomputable def strOf (v:Value):Option Str:=Value.casesOn (motive:=fun _=>Option Str) v none none none (fun _=>none) (fun _ _=>none) (fun _ _=>none) (fun n _=>some n) (fun _ _=>none) (fun _=>none) (fun _=>none) fun _=>none
noncomputable def codeAt (h:Heap) (a:Addr):Option Str:=(h.get? a).bind fun o=>(fldOf o.data).bind fun vs=>vs[1]?.bind strOf
theorem fld_is {d:Data} {vs:Array Value} (h:fldOf d = some vs):d = .fields vs:=by
 cases d with
 | fields us=>exact congrArg Data.fields (Option.some.inj h)
 | _=>exact none_some h
theorem str_is {v:Value} {n:Str} (h:strOf v = some n):∃ t,v = .str n t:=by
 cases v with
 | str m t=>cases h; exact ⟨t,rfl⟩
 | _=>exact none_some h
theorem code_of {h:Heap} {a:Addr} {n:Str} (e:codeAt h a = some n):h.CodeRec (.ref a) n:=by
 refine obind_elim e fun o ho e=>obind_elim e fun vs hd e=>obind_elim e fun v hv e=>?_
 obtain ⟨t,rfl⟩:=str_is e
 exact ⟨a,o,vs,t,rfl,ho,fld_is hd,hv⟩
noncomputable def hookP:Hook where
 α:=List (Option Obj) × List (Option Str)
 obs:=fun s=>(frA.map s.heap.get?,codesL.map fun p=>codeAt s.heap p.1)
 val:=fun w=>((frK w.params).map fun p=>some p.2,codesL.map fun p=>some p.2)
 says:=fun w h=>(frK w.params).In h ∧ ∀ p ∈ codesL,h.CodeRec (.ref p.1) p.2
 of:=fun w s e=>⟨InK.of (K:=frK) (as:=frA) (fun _=>rfl) w s (congrArg Prod.fst e),fun p hp=>code_of ((List.map_inj_left (f:=fun p=>codeAt s.heap p.1) (g:=fun p=>some p.2)).mp (congrArg Prod.snd e) p hp)⟩
 keeps:=fun _ _ _ x k=>⟨Frag.In.keeps x.1 k,fun p hp=>(x.2 p hp).keeps k⟩
noncomputable def recP:DefRec:={ name:="law",params:=argsOf (stm 34),body:=bodyOf (stm 34),scope:=scopeOf (stm 34),pos:=⟨237,0,255,57⟩ }
theorem left_is:LeftO PySem.Challenge.rw_sa0172_01.row.prog viewP [] (fun s=>xlAt viewP [] s && recOk (RowW.records PySem.Challenge.rw_sa0172_01.row.toRowW) s) hookP.obs hookP.val 3606:=by
 intro w
 kernel_rfl
theorem head_is (walk:WalkO viewP [] (XL viewP []) hookP.says PySem.Challenge.rw_sa0172_01.row.toRowW recP [] fun f vs=>PySem.call f vs):PySem.Challenge.rw_sa0172_01.Holds:=by
 refine holds_law (by kernel_rfl) fun said=>?_
 exact holds_open (q:=viewP) (loose:=[]) left_is hookP.of hookP.keeps (fun s e=>xl_of s (Bool.and_eq_true_iff.mp e).1) XL.keeps (by kernel_rfl) (by kernel_rfl) (by kernel_rfl) (fun s e=>recFacts_of (Bool.and_eq_true_iff.mp e).2) (by kernel_rfl) said (by decide +kernel) ⟨by kernel_rfl,by kernel_rfl,by kernel_rfl,by kernel_rfl,by kernel_rfl,by decide +kernel⟩ ⟨[WData.list []],by decide +kernel,by decide +kernel⟩ walk
noncomputable def parB:List Str -> List (Str × NameKind) -> Bool
 | [],_=>true
 | x :: xs,(y,k) :: ns=>(x == y && (k == .local || k == .cell)) && parB xs ns
 | _ :: _,[]=>false
theorem par_of {pn:List Str}:∀ {names:List (Str × NameKind)},parB pn names = true -> ∀ (i:Nat) (x:Str),pn[i]? = some x -> names[i]? = some (x,.local) ∨ names[i]? = some (x,.cell):=by
 induction pn with
 | nil=>intro _ _ i x h; exact none_some h
 | cons y xs ih =>
  intro names h i x hx
  cases names with
  | nil=>cases h
  | cons p ns =>
   obtain ⟨h,hr⟩:=and_split h
   cases i with
   | zero =>
    cases hx
    obtain ⟨h1,hk⟩:=and_split h
    rw [show ((p :: ns)[0]? : Option (Str × NameKind)) = some (p.1,p.2) from rfl,eq_of_beq h1]
    rcases Bool.or_eq_true_iff.mp hk with hk | hk
    ·exact .inl (by rw [eq_of_beq hk])
    ·exact .inr (by rw [eq_of_beq hk])
   | succ i=>exact ih hr i x hx
noncomputable def subOne (outer:List (Str × NameKind)) (x:Str) (k:NameKind) (o:Option Nat):Bool:=if k = .free then o.elim false fun j=>outer[j]? == some (x,.cell) else !(k == .cell) && o.isNone
noncomputable def subB (outer:List (Str × NameKind)):List (Str × NameKind) -> List (Option Nat) -> Bool
 | [],_=>true
 | p :: ns,o :: fm=>subOne outer p.1 p.2 o && subB outer ns fm
 | _ :: _,[]=>false
theorem subOne_is {outer:List (Str × NameKind)} {x:Str} {k:NameKind} {o:Option Nat} (h:subOne outer x k o = true):k ≠ .cell ∧ (k = .free -> ∃ j,o = some j ∧ outer[j]? = some (x,.cell)) ∧ (k ≠ .free -> o = none):=by
 unfold subOne at h
 by_cases e:k = .free
 ·rw [if_pos e] at h
  cases o with
  | none=>cases h
  | some j=>exact ⟨by rw [e]; decide,fun _=>⟨j,rfl,eq_of_beq h⟩,fun z=>absurd e z⟩
 ·rw [if_neg e] at h
  obtain ⟨h1,h2⟩:=and_split h
  refine ⟨fun z=>?_,fun z=>absurd z e,fun _=>Option.isNone_iff_eq_none.mp h2⟩
  rw [z] at h1; cases h1
theorem subB_at {outer names:List (Str × NameKind)}:∀ {fm:List (Option Nat)},subB outer names fm = true -> ∀ (i:Nat) (x:Str) (k:NameKind),names[i]? = some (x,k) -> k ≠ .cell ∧ (k = .free -> ∃ j,fm[i]? = some (some j) ∧ outer[j]? = some (x,.cell)) ∧ (k ≠ .free -> fm[i]? = some none):=by
 induction names with
 | nil=>intro _ _ i x k h; exact none_some h
 | cons p ns ih =>
  intro fm h i x k hx
  cases fm with
  | nil=>cases h
  | cons o fm =>
   obtain ⟨h,hr⟩:=and_split h
   cases i with
   | zero =>
    cases hx
    obtain ⟨h1,h2,h3⟩:=subOne_is h
    exact ⟨h1,fun e=>(h2 e).imp fun j q=>⟨congrArg some q.1,q.2⟩,fun e=>congrArg some (h3 e)⟩
   | succ i=>exact ih hr i x k hx
noncomputable def ndB:List Str -> Bool
 | []=>true
 | x :: xs=>!xs.contains x && ndB xs
theorem nd_of {l:List Str} (h:ndB l = true):l.Nodup:=by
 induction l with
 | nil=>exact .nil
 | cons x xs ih =>
  obtain ⟨h1,h2⟩:=and_split h
  refine List.nodup_cons.mpr ⟨fun z=>?_,ih h2⟩
  rw [List.contains_eq_mem,decide_eq_true z] at h1; cases h1
noncomputable def dbgB (l:List (Str × NameKind)):Bool:=l.all fun x=>!(x.1 == ("__debug__" : Str)) && !(x.1 == ("__classdict__" : Str))
theorem sub_of {env:Env} {scope:Scope} {fm:List (Option Nat)} (h:(decide (scope.kind = .function) && (subB env.scope.names scope.names fm && (ndB (scope.names.map (·.1)) && dbgB scope.names))) = true):Sub env scope fm:=by
 simp only [Bool.and_eq_true,decide_eq_true_eq] at h
 obtain ⟨h1,h2,h3,h4⟩:=h
 refine ⟨h1,fun y hy=>?_,nd_of h3,fun x hx=>?_,fun i x hi=>(subB_at h2 i x _ hi).2.1 rfl,fun i x hi=>(subB_at h2 i x _ hi).2.2 (by intro e; cases e)⟩
 ·obtain ⟨i,hi⟩:=List.mem_iff_getElem?.mp hy
  obtain ⟨y1,y2⟩:=y
  exact (subB_at h2 i y1 y2 hi).1
 ·have:=List.all_eq_true.mp h4 x hx
  simpa using this
theorem FSpec.up {c:Cx} {d d':Nat} {fa:Addr} {n:Nat} {g:List V -> List O -> Option (V × List O)} (h:FSpec c d fa n g) (hd:d ≤ d'):FSpec c d' fa n g:=⟨fun A gA=>h.run A ⟨gA.1,Nat.lt_of_le_of_lt (Nat.add_le_add_left (Nat.mul_le_mul_left 3 hd) _) gA.2.1,Nat.lt_of_le_of_lt (Nat.add_le_add_left (Nat.mul_le_mul_left 20 hd) _) gA.2.2⟩⟩
noncomputable def zeroAt (i:Nat):St -> Option Bool:=fun σ=>match σ.loc[i]? with
 | some (.int 0)=>some true
 | _=>none
noncomputable def names_Step:List Str:=["op", "dst", "args", "more", "is_volatile", "line"]
noncomputable def names_Block:List Str:=["number", "steps", "end"]
noncomputable def names_Func:List Str:=["name", "params", "is_static", "slots", "blocks", "registers", "has_value"]
noncomputable def names_Loop:List Str:=["header", "blocks", "tails"]
noncomputable abbrev fo (fd:FuncData):Obj:=⟨.type "function",none,.func fd,#[]⟩
structure Lnk (c:Cx):Prop where
 G:Glo c
 fr:c.fr = frK c.w.params
 bi:∀ x:Str,x ≠ "__name__" -> c.mb x = bootBuiltins x
 cds:∀ p ∈ codesL,c.hb.CodeRec (.ref p.1) p.2
theorem len_cons {P:List Value -> Prop} {n:Nat} (h:∀ a l,l.length = n -> P (a :: l)):∀ args:List Value,args.length = n + 1 -> P args:=fun args e=>by
 cases args with
 | nil=>cases e
 | cons a l=>exact h a l (Nat.succ.inj e)
theorem bind1 {P:List Value -> Prop} (h:∀ a,P [a]):∀ args:List Value,args.length = 1 -> P args:=len_cons fun a _ e=>List.eq_nil_of_length_eq_zero e ▸ h a
theorem bind2 {P:List Value -> Prop} (h:∀ a b,P [a,b]):∀ args:List Value,args.length = 2 -> P args:=len_cons fun a=>bind1 (P:=fun l=>P (a :: l)) (h a)
theorem bind3 {P:List Value -> Prop} (h:∀ a b c,P [a,b,c]):∀ args:List Value,args.length = 3 -> P args:=len_cons fun a=>bind2 (P:=fun l=>P (a :: l)) (h a)
theorem bind4 {P:List Value -> Prop} (h:∀ a b c d,P [a,b,c,d]):∀ args:List Value,args.length = 4 -> P args:=len_cons fun a=>bind3 (P:=fun l=>P (a :: l)) (h a)
theorem bind5 {P:List Value -> Prop} (h:∀ a b c d e,P [a,b,c,d,e]):∀ args:List Value,args.length = 5 -> P args:=len_cons fun a=>bind4 (P:=fun l=>P (a :: l)) (h a)
theorem hd_of {K:Frag} {C:Addr} (h:hasDictIn K C = true):∃ cd,clsIn K C = some cd ∧ cd.hasDict = true:=by
 unfold hasDictIn at h
 cases e:clsIn K C with
 | none=>rw [e] at h; cases h
 | some cd=>rw [e] at h; exact ⟨cd,rfl,h⟩
noncomputable def nmB (K:Frag) (C:Addr) (l:List Str):Bool:=l.all fun x=>findIn K (.ref C) x == some none
theorem nm_of {K:Frag} {C:Addr} {l:List Str} (h:nmB K C l = true):∀ x ∈ l,findIn K (.ref C) x = some none:=fun x hx=>by
 have:=List.all_eq_true.mp h x hx
 simpa using this
section
variable {c:Cx} (lk:Lnk c)
include lk
theorem Lnk.X:(frK c.w.params).In c.hb:=lk.fr ▸ lk.G.X
theorem Lnk.look {a:Addr} {o:Obj} (e:(frK c.w.params).lookup a = some o):c.fr.lookup a = some o:=lk.fr ▸ e
theorem Lnk.v {n:Str} {v:Value} (e:nsIn (frK c.w.params) mainGlobals n = some (some v)):c.mg n = some v:=mg_of lk.X lk.G.g e
theorem Lnk.no {n:Str} (e:nsIn (frK c.w.params) mainGlobals n = some none):c.mg n = none:=mg_none_of lk.X lk.G.g e
theorem Lnk.bl {n:Str} {v:Option Value} (h:n ≠ "__name__") (e:bootBuiltins n = v):c.mb n = v:=(lk.bi n h).trans e
theorem Lnk.cd {i:Nat} {p:Addr × Str} (e:codesL[i]? = some p):c.hb.CodeRec (.ref p.1) p.2:=lk.cds p (List.mem_of_getElem? e)
theorem Lnk.v_reg:c.mg "reg" = some (.ref 21):=lk.v (by kernel_rfl)
theorem Lnk.v_num:c.mg "num" = some (.ref 28):=lk.v (by kernel_rfl)
theorem Lnk.v_in_place_of:c.mg "in_place_of" = some (.ref 119):=lk.v (by kernel_rfl)
theorem Lnk.v_steps_in:c.mg "steps_in" = some (.ref 126):=lk.v (by kernel_rfl)
theorem Lnk.v_sum_with:c.mg "sum_with" = some (.ref 133):=lk.v (by kernel_rfl)
theorem Lnk.v_growth_at:c.mg "growth_at" = some (.ref 140):=lk.v (by kernel_rfl)
theorem Lnk.v_counters_of:c.mg "counters_of" = some (.ref 147):=lk.v (by kernel_rfl)
theorem Lnk.v_product_of:c.mg "product_of" = some (.ref 154):=lk.v (by kernel_rfl)
theorem Lnk.v_products_in:c.mg "products_in" = some (.ref 159):=lk.v (by kernel_rfl)
theorem Lnk.v_grown_along:c.mg "grown_along" = some (.ref 166):=lk.v (by kernel_rfl)
theorem Lnk.v_held_counters:c.mg "held_counters" = some (.ref 171):=lk.v (by kernel_rfl)
theorem Lnk.v_additions_for:c.mg "additions_for" = some (.ref 178):=lk.v (by kernel_rfl)
theorem Lnk.v_multiply_ahead:c.mg "multiply_ahead" = some (.ref 185):=lk.v (by kernel_rfl)
theorem Lnk.v_law_draw:c.mg "_law_draw" = some (.ref 192):=lk.v (by kernel_rfl)
theorem Lnk.v_law_kind:c.mg "_law_kind" = some (.ref 199):=lk.v (by kernel_rfl)
theorem Lnk.v_law_parts:c.mg "_law_parts" = some (.ref 204):=lk.v (by kernel_rfl)
theorem Lnk.v_law_made:c.mg "_law_made" = some (.ref 209):=lk.v (by kernel_rfl)
theorem Lnk.v_law_sum:c.mg "_law_sum" = some (.ref 216):=lk.v (by kernel_rfl)
theorem Lnk.v_law_growths:c.mg "_law_growths" = some (.ref 223):=lk.v (by kernel_rfl)
theorem Lnk.v_law_pair:c.mg "_law_pair" = some (.ref 230):=lk.v (by kernel_rfl)
theorem Lnk.v_law_pairs:c.mg "_law_pairs" = some (.ref 237):=lk.v (by kernel_rfl)
theorem Lnk.v_law_do:c.mg "_law_do" = some (.ref 242):=lk.v (by kernel_rfl)
theorem Lnk.v_law_due:c.mg "_law_due" = some (.ref 247):=lk.v (by kernel_rfl)
theorem Lnk.v_law_is_kept:c.mg "_law_is_kept" = some (.ref 252):=lk.v (by kernel_rfl)
theorem Lnk.k_Step:ClsOK c 45 names_Step:=⟨lk.G.X,lk.fr ▸ hd_of (by kernel_rfl),lk.fr ▸ (by kernel_rfl),lk.fr ▸ (by kernel_rfl),lk.fr ▸ (by kernel_rfl),lk.fr ▸ nm_of (by kernel_rfl)⟩
theorem Lnk.mk_Step:Mk c 45 42:=⟨lk.fr ▸ (by kernel_rfl),lk.fr ▸ (by kernel_rfl),lk.fr ▸ (by kernel_rfl),lk.fr ▸ (by kernel_rfl)⟩
theorem Lnk.v_Step:c.mg "Step" = some (.ref 45):=lk.v (by kernel_rfl)
theorem Lnk.k_Block:ClsOK c 66 names_Block:=⟨lk.G.X,lk.fr ▸ hd_of (by kernel_rfl),lk.fr ▸ (by kernel_rfl),lk.fr ▸ (by kernel_rfl),lk.fr ▸ (by kernel_rfl),lk.fr ▸ nm_of (by kernel_rfl)⟩
theorem Lnk.mk_Block:Mk c 66 63:=⟨lk.fr ▸ (by kernel_rfl),lk.fr ▸ (by kernel_rfl),lk.fr ▸ (by kernel_rfl),lk.fr ▸ (by kernel_rfl)⟩
theorem Lnk.v_Block:c.mg "Block" = some (.ref 66):=lk.v (by kernel_rfl)
theorem Lnk.k_Func:ClsOK c 87 names_Func:=⟨lk.G.X,lk.fr ▸ hd_of (by kernel_rfl),lk.fr ▸ (by kernel_rfl),lk.fr ▸ (by kernel_rfl),lk.fr ▸ (by kernel_rfl),lk.fr ▸ nm_of (by kernel_rfl)⟩
theorem Lnk.mk_Func:Mk c 87 84:=⟨lk.fr ▸ (by kernel_rfl),lk.fr ▸ (by kernel_rfl),lk.fr ▸ (by kernel_rfl),lk.fr ▸ (by kernel_rfl)⟩
theorem Lnk.v_Func:c.mg "Func" = some (.ref 87):=lk.v (by kernel_rfl)
theorem Lnk.k_Loop:ClsOK c 108 names_Loop:=⟨lk.G.X,lk.fr ▸ hd_of (by kernel_rfl),lk.fr ▸ (by kernel_rfl),lk.fr ▸ (by kernel_rfl),lk.fr ▸ (by kernel_rfl),lk.fr ▸ nm_of (by kernel_rfl)⟩
theorem Lnk.mk_Loop:Mk c 108 105:=⟨lk.fr ▸ (by kernel_rfl),lk.fr ▸ (by kernel_rfl),lk.fr ▸ (by kernel_rfl),lk.fr ▸ (by kernel_rfl)⟩
theorem Lnk.v_Loop:c.mg "Loop" = some (.ref 108):=lk.v (by kernel_rfl)
theorem Lnk.n_enumerate:c.mg "enumerate" = none:=lk.no (by kernel_rfl)
theorem Lnk.b_enumerate:c.mb "enumerate" = some (.type "enumerate"):=lk.bl (by decide +kernel) (by kernel_rfl)
theorem Lnk.n_int:c.mg "int" = none:=lk.no (by kernel_rfl)
theorem Lnk.b_int:c.mb "int" = some (.type "int"):=lk.bl (by decide +kernel) (by kernel_rfl)
theorem Lnk.n_list:c.mg "list" = none:=lk.no (by kernel_rfl)
theorem Lnk.b_list:c.mb "list" = some (.type "list"):=lk.bl (by decide +kernel) (by kernel_rfl)
theorem Lnk.n_range:c.mg "range" = none:=lk.no (by kernel_rfl)
theorem Lnk.b_range:c.mb "range" = some (.type "range"):=lk.bl (by decide +kernel) (by kernel_rfl)
theorem Lnk.n_set:c.mg "set" = none:=lk.no (by kernel_rfl)
theorem Lnk.b_set:c.mb "set" = some (.type "set"):=lk.bl (by decide +kernel) (by kernel_rfl)
theorem Lnk.n_zip:c.mg "zip" = none:=lk.no (by kernel_rfl)
theorem Lnk.b_zip:c.mb "zip" = some (.type "zip"):=lk.bl (by decide +kernel) (by kernel_rfl)
theorem Lnk.n_len:c.mg "len" = none:=lk.no (by kernel_rfl)
theorem Lnk.b_len:c.mb "len" = some (.builtin "len"):=lk.bl (by decide +kernel) (by kernel_rfl)
theorem Lnk.n_max:c.mg "max" = none:=lk.no (by kernel_rfl)
theorem Lnk.b_max:c.mb "max" = some (.builtin "max"):=lk.bl (by decide +kernel) (by kernel_rfl)
theorem Lnk.n_min:c.mg "min" = none:=lk.no (by kernel_rfl)
theorem Lnk.b_min:c.mb "min" = some (.builtin "min"):=lk.bl (by decide +kernel) (by kernel_rfl)
theorem Lnk.n_sorted:c.mg "sorted" = none:=lk.no (by kernel_rfl)
theorem Lnk.b_sorted:c.mb "sorted" = some (.builtin "sorted"):=lk.bl (by decide +kernel) (by kernel_rfl)
theorem Lnk.n_sum:c.mg "sum" = none:=lk.no (by kernel_rfl)
theorem Lnk.b_sum:c.mb "sum" = some (.builtin "sum"):=lk.bl (by decide +kernel) (by kernel_rfl)
theorem Lnk.v_MASK:c.mg "MASK" = some (.int 4294967295 189):=lk.v (by kernel_rfl)
theorem Lnk.v_law_ALL:c.mg "_law_ALL" = some (.int 4294967296 470):=lk.v (by kernel_rfl)
end
section
variable {c:Cx}
noncomputable def fn_reg (lk:Lnk c):Fn c 21 where
 fd:=fd_reg
 body:=body_reg
 pn:=["number"]
 look:=⟨_,_,_,lk.look (o:=fo fd_reg) (by kernel_rfl)⟩
 code:=lk.cd (i:=0) rfl
 glo:=rfl
 blt:=rfl
 clo:=rfl
 bod:=rfl
 kind:=rfl
 co:=rfl
 gen:=rfl
 nd:=by decide +kernel
 dbg:=by decide +kernel
 nofree:=by decide +kernel
 par:=par_of rfl
 bind:=bind1 fun a=>by kernel_rfl
noncomputable def fn_num (lk:Lnk c):Fn c 28 where
 fd:=fd_num
 body:=body_num
 pn:=["value"]
 look:=⟨_,_,_,lk.look (o:=fo fd_num) (by kernel_rfl)⟩
 code:=lk.cd (i:=1) rfl
 glo:=rfl
 blt:=rfl
 clo:=rfl
 bod:=rfl
 kind:=rfl
 co:=rfl
 gen:=rfl
 nd:=by decide +kernel
 dbg:=by decide +kernel
 nofree:=by decide +kernel
 par:=par_of rfl
 bind:=bind1 fun a=>by kernel_rfl
noncomputable def fn_Step_init (lk:Lnk c):Fn c 42 where
 fd:=fd_Step_init
 body:=body_Step_init
 pn:=["self", "op", "dst", "args", "more"]
 look:=⟨_,_,_,lk.look (o:=fo fd_Step_init) (by kernel_rfl)⟩
 code:=lk.cd (i:=2) rfl
 glo:=rfl
 blt:=rfl
 clo:=rfl
 bod:=rfl
 kind:=rfl
 co:=rfl
 gen:=rfl
 nd:=by decide +kernel
 dbg:=by decide +kernel
 nofree:=by decide +kernel
 par:=par_of rfl
 bind:=bind5 fun a b c d e=>by kernel_rfl
noncomputable def fn_Block_init (lk:Lnk c):Fn c 63 where
 fd:=fd_Block_init
 body:=body_Block_init
 pn:=["self", "number"]
 look:=⟨_,_,_,lk.look (o:=fo fd_Block_init) (by kernel_rfl)⟩
 code:=lk.cd (i:=3) rfl
 glo:=rfl
 blt:=rfl
 clo:=rfl
 bod:=rfl
 kind:=rfl
 co:=rfl
 gen:=rfl
 nd:=by decide +kernel
 dbg:=by decide +kernel
 nofree:=by decide +kernel
 par:=par_of rfl
 bind:=bind2 fun a b=>by kernel_rfl
noncomputable def fn_Func_init (lk:Lnk c):Fn c 84 where
 fd:=fd_Func_init
 body:=body_Func_init
 pn:=["self", "name"]
 look:=⟨_,_,_,lk.look (o:=fo fd_Func_init) (by kernel_rfl)⟩
 code:=lk.cd (i:=4) rfl
 glo:=rfl
 blt:=rfl
 clo:=rfl
 bod:=rfl
 kind:=rfl
 co:=rfl
 gen:=rfl
 nd:=by decide +kernel
 dbg:=by decide +kernel
 nofree:=by decide +kernel
 par:=par_of rfl
 bind:=bind2 fun a b=>by kernel_rfl
noncomputable def fn_Loop_init (lk:Lnk c):Fn c 105 where
 fd:=fd_Loop_init
 body:=body_Loop_init
 pn:=["self", "header", "blocks", "tails"]
 look:=⟨_,_,_,lk.look (o:=fo fd_Loop_init) (by kernel_rfl)⟩
 code:=lk.cd (i:=5) rfl
 glo:=rfl
 blt:=rfl
 clo:=rfl
 bod:=rfl
 kind:=rfl
 co:=rfl
 gen:=rfl
 nd:=by decide +kernel
 dbg:=by decide +kernel
 nofree:=by decide +kernel
 par:=par_of rfl
 bind:=bind4 fun a b c d=>by kernel_rfl
noncomputable def fn_in_place_of (lk:Lnk c):Fn c 119 where
 fd:=fd_in_place_of
 body:=body_in_place_of
 pn:=["step", "op", "dst", "args", "more"]
 look:=⟨_,_,_,lk.look (o:=fo fd_in_place_of) (by kernel_rfl)⟩
 code:=lk.cd (i:=6) rfl
 glo:=rfl
 blt:=rfl
 clo:=rfl
 bod:=rfl
 kind:=rfl
 co:=rfl
 gen:=rfl
 nd:=by decide +kernel
 dbg:=by decide +kernel
 nofree:=by decide +kernel
 par:=par_of rfl
 bind:=bind5 fun a b c d e=>by kernel_rfl
noncomputable def fn_steps_in (lk:Lnk c):Fn c 126 where
 fd:=fd_steps_in
 body:=body_steps_in
 pn:=["func", "loop"]
 look:=⟨_,_,_,lk.look (o:=fo fd_steps_in) (by kernel_rfl)⟩
 code:=lk.cd (i:=7) rfl
 glo:=rfl
 blt:=rfl
 clo:=rfl
 bod:=rfl
 kind:=rfl
 co:=rfl
 gen:=rfl
 nd:=by decide +kernel
 dbg:=by decide +kernel
 nofree:=by decide +kernel
 par:=par_of rfl
 bind:=bind2 fun a b=>by kernel_rfl
noncomputable def fn_sum_with (lk:Lnk c):Fn c 133 where
 fd:=fd_sum_with
 body:=body_sum_with
 pn:=["step", "register"]
 look:=⟨_,_,_,lk.look (o:=fo fd_sum_with) (by kernel_rfl)⟩
 code:=lk.cd (i:=8) rfl
 glo:=rfl
 blt:=rfl
 clo:=rfl
 bod:=rfl
 kind:=rfl
 co:=rfl
 gen:=rfl
 nd:=by decide +kernel
 dbg:=by decide +kernel
 nofree:=by decide +kernel
 par:=par_of rfl
 bind:=bind2 fun a b=>by kernel_rfl
noncomputable def fn_growth_at (lk:Lnk c):Fn c 140 where
 fd:=fd_growth_at
 body:=body_growth_at
 pn:=["steps", "place"]
 look:=⟨_,_,_,lk.look (o:=fo fd_growth_at) (by kernel_rfl)⟩
 code:=lk.cd (i:=9) rfl
 glo:=rfl
 blt:=rfl
 clo:=rfl
 bod:=rfl
 kind:=rfl
 co:=rfl
 gen:=rfl
 nd:=by decide +kernel
 dbg:=by decide +kernel
 nofree:=by decide +kernel
 par:=par_of rfl
 bind:=bind2 fun a b=>by kernel_rfl
noncomputable def fn_counters_of (lk:Lnk c):Fn c 147 where
 fd:=fd_counters_of
 body:=body_counters_of
 pn:=["func", "rows"]
 look:=⟨_,_,_,lk.look (o:=fo fd_counters_of) (by kernel_rfl)⟩
 code:=lk.cd (i:=10) rfl
 glo:=rfl
 blt:=rfl
 clo:=rfl
 bod:=rfl
 kind:=rfl
 co:=rfl
 gen:=rfl
 nd:=by decide +kernel
 dbg:=by decide +kernel
 nofree:=by decide +kernel
 par:=par_of rfl
 bind:=bind2 fun a b=>by kernel_rfl
noncomputable def fn_product_of (lk:Lnk c):Fn c 154 where
 fd:=fd_product_of
 body:=body_product_of
 pn:=["step", "counters"]
 look:=⟨_,_,_,lk.look (o:=fo fd_product_of) (by kernel_rfl)⟩
 code:=lk.cd (i:=11) rfl
 glo:=rfl
 blt:=rfl
 clo:=rfl
 bod:=rfl
 kind:=rfl
 co:=rfl
 gen:=rfl
 nd:=by decide +kernel
 dbg:=by decide +kernel
 nofree:=by decide +kernel
 par:=par_of rfl
 bind:=bind2 fun a b=>by kernel_rfl
noncomputable def fn_products_in (lk:Lnk c):Fn c 159 where
 fd:=fd_products_in
 body:=body_products_in
 pn:=["func", "rows"]
 look:=⟨_,_,_,lk.look (o:=fo fd_products_in) (by kernel_rfl)⟩
 code:=lk.cd (i:=12) rfl
 glo:=rfl
 blt:=rfl
 clo:=rfl
 bod:=rfl
 kind:=rfl
 co:=rfl
 gen:=rfl
 nd:=by decide +kernel
 dbg:=by decide +kernel
 nofree:=by decide +kernel
 par:=par_of rfl
 bind:=bind2 fun a b=>by kernel_rfl
noncomputable def fn_grown_along (lk:Lnk c):Fn c 166 where
 fd:=fd_grown_along
 body:=body_grown_along
 pn:=["func", "loop", "held"]
 look:=⟨_,_,_,lk.look (o:=fo fd_grown_along) (by kernel_rfl)⟩
 code:=lk.cd (i:=13) rfl
 glo:=rfl
 blt:=rfl
 clo:=rfl
 bod:=rfl
 kind:=rfl
 co:=rfl
 gen:=rfl
 nd:=by decide +kernel
 dbg:=by decide +kernel
 nofree:=by decide +kernel
 par:=par_of rfl
 bind:=bind3 fun a b c=>by kernel_rfl
noncomputable def fn_held_counters (lk:Lnk c):Fn c 171 where
 fd:=fd_held_counters
 body:=body_held_counters
 pn:=["held"]
 look:=⟨_,_,_,lk.look (o:=fo fd_held_counters) (by kernel_rfl)⟩
 code:=lk.cd (i:=14) rfl
 glo:=rfl
 blt:=rfl
 clo:=rfl
 bod:=rfl
 kind:=rfl
 co:=rfl
 gen:=rfl
 nd:=by decide +kernel
 dbg:=by decide +kernel
 nofree:=by decide +kernel
 par:=par_of rfl
 bind:=bind1 fun a=>by kernel_rfl
noncomputable def fn_additions_for (lk:Lnk c):Fn c 178 where
 fd:=fd_additions_for
 body:=body_additions_for
 pn:=["step", "growth", "held"]
 look:=⟨_,_,_,lk.look (o:=fo fd_additions_for) (by kernel_rfl)⟩
 code:=lk.cd (i:=15) rfl
 glo:=rfl
 blt:=rfl
 clo:=rfl
 bod:=rfl
 kind:=rfl
 co:=rfl
 gen:=rfl
 nd:=by decide +kernel
 dbg:=by decide +kernel
 nofree:=by decide +kernel
 par:=par_of rfl
 bind:=bind3 fun a b c=>by kernel_rfl
noncomputable def fn_multiply_ahead (lk:Lnk c):Fn c 185 where
 fd:=fd_multiply_ahead
 body:=body_multiply_ahead
 pn:=["func", "loop", "block", "products"]
 look:=⟨_,_,_,lk.look (o:=fo fd_multiply_ahead) (by kernel_rfl)⟩
 code:=lk.cd (i:=16) rfl
 glo:=rfl
 blt:=rfl
 clo:=rfl
 bod:=rfl
 kind:=rfl
 co:=rfl
 gen:=rfl
 nd:=by decide +kernel
 dbg:=by decide +kernel
 nofree:=by decide +kernel
 par:=par_of rfl
 bind:=bind4 fun a b c d=>by kernel_rfl
noncomputable def fn_law_draw (lk:Lnk c):Fn c 192 where
 fd:=fd_law_draw
 body:=body_law_draw
 pn:=["well", "size"]
 look:=⟨_,_,_,lk.look (o:=fo fd_law_draw) (by kernel_rfl)⟩
 code:=lk.cd (i:=17) rfl
 glo:=rfl
 blt:=rfl
 clo:=rfl
 bod:=rfl
 kind:=rfl
 co:=rfl
 gen:=rfl
 nd:=by decide +kernel
 dbg:=by decide +kernel
 nofree:=by decide +kernel
 par:=par_of rfl
 bind:=bind2 fun a b=>by kernel_rfl
noncomputable def fn_law_kind (lk:Lnk c):Fn c 199 where
 fd:=fd_law_kind
 body:=body_law_kind
 pn:=["kind", "one", "much"]
 look:=⟨_,_,_,lk.look (o:=fo fd_law_kind) (by kernel_rfl)⟩
 code:=lk.cd (i:=18) rfl
 glo:=rfl
 blt:=rfl
 clo:=rfl
 bod:=rfl
 kind:=rfl
 co:=rfl
 gen:=rfl
 nd:=by decide +kernel
 dbg:=by decide +kernel
 nofree:=by decide +kernel
 par:=par_of rfl
 bind:=bind3 fun a b c=>by kernel_rfl
noncomputable def fn_law_parts (lk:Lnk c):Fn c 204 where
 fd:=fd_law_parts
 body:=body_law_parts
 pn:=["well", "many"]
 look:=⟨_,_,_,lk.look (o:=fo fd_law_parts) (by kernel_rfl)⟩
 code:=lk.cd (i:=19) rfl
 glo:=rfl
 blt:=rfl
 clo:=rfl
 bod:=rfl
 kind:=rfl
 co:=rfl
 gen:=rfl
 nd:=by decide +kernel
 dbg:=by decide +kernel
 nofree:=by decide +kernel
 par:=par_of rfl
 bind:=bind2 fun a b=>by kernel_rfl
noncomputable def fn_law_made (lk:Lnk c):Fn c 209 where
 fd:=fd_law_made
 body:=body_law_made
 pn:=["parts"]
 look:=⟨_,_,_,lk.look (o:=fo fd_law_made) (by kernel_rfl)⟩
 code:=lk.cd (i:=20) rfl
 glo:=rfl
 blt:=rfl
 clo:=rfl
 bod:=rfl
 kind:=rfl
 co:=rfl
 gen:=rfl
 nd:=by decide +kernel
 dbg:=by decide +kernel
 nofree:=by decide +kernel
 par:=par_of rfl
 bind:=bind1 fun a=>by kernel_rfl
noncomputable def fn_law_sum (lk:Lnk c):Fn c 216 where
 fd:=fd_law_sum
 body:=body_law_sum
 pn:=["op", "args"]
 look:=⟨_,_,_,lk.look (o:=fo fd_law_sum) (by kernel_rfl)⟩
 code:=lk.cd (i:=21) rfl
 glo:=rfl
 blt:=rfl
 clo:=rfl
 bod:=rfl
 kind:=rfl
 co:=rfl
 gen:=rfl
 nd:=by decide +kernel
 dbg:=by decide +kernel
 nofree:=by decide +kernel
 par:=par_of rfl
 bind:=bind2 fun a b=>by kernel_rfl
noncomputable def fn_law_growths (lk:Lnk c):Fn c 223 where
 fd:=fd_law_growths
 body:=body_law_growths
 pn:=["rows"]
 look:=⟨_,_,_,lk.look (o:=fo fd_law_growths) (by kernel_rfl)⟩
 code:=lk.cd (i:=22) rfl
 glo:=rfl
 blt:=rfl
 clo:=rfl
 bod:=rfl
 kind:=rfl
 co:=rfl
 gen:=rfl
 nd:=by decide +kernel
 dbg:=by decide +kernel
 nofree:=by decide +kernel
 par:=par_of rfl
 bind:=bind1 fun a=>by kernel_rfl
noncomputable def fn_law_pair (lk:Lnk c):Fn c 230 where
 fd:=fd_law_pair
 body:=body_law_pair
 pn:=["row"]
 look:=⟨_,_,_,lk.look (o:=fo fd_law_pair) (by kernel_rfl)⟩
 code:=lk.cd (i:=23) rfl
 glo:=rfl
 blt:=rfl
 clo:=rfl
 bod:=rfl
 kind:=rfl
 co:=rfl
 gen:=rfl
 nd:=by decide +kernel
 dbg:=by decide +kernel
 nofree:=by decide +kernel
 par:=par_of rfl
 bind:=bind1 fun a=>by kernel_rfl
noncomputable def fn_law_pairs (lk:Lnk c):Fn c 237 where
 fd:=fd_law_pairs
 body:=body_law_pairs
 pn:=["ring"]
 look:=⟨_,_,_,lk.look (o:=fo fd_law_pairs) (by kernel_rfl)⟩
 code:=lk.cd (i:=24) rfl
 glo:=rfl
 blt:=rfl
 clo:=rfl
 bod:=rfl
 kind:=rfl
 co:=rfl
 gen:=rfl
 nd:=by decide +kernel
 dbg:=by decide +kernel
 nofree:=by decide +kernel
 par:=par_of rfl
 bind:=bind1 fun a=>by kernel_rfl
noncomputable def fn_law_do (lk:Lnk c):Fn c 242 where
 fd:=fd_law_do
 body:=body_law_do
 pn:=["cells", "row"]
 look:=⟨_,_,_,lk.look (o:=fo fd_law_do) (by kernel_rfl)⟩
 code:=lk.cd (i:=25) rfl
 glo:=rfl
 blt:=rfl
 clo:=rfl
 bod:=rfl
 kind:=rfl
 co:=rfl
 gen:=rfl
 nd:=by decide +kernel
 dbg:=by decide +kernel
 nofree:=by decide +kernel
 par:=par_of rfl
 bind:=bind2 fun a b=>by kernel_rfl
noncomputable def fn_law_due (lk:Lnk c):Fn c 247 where
 fd:=fd_law_due
 body:=body_law_due
 pn:=["old", "pairs"]
 look:=⟨_,_,_,lk.look (o:=fo fd_law_due) (by kernel_rfl)⟩
 code:=lk.cd (i:=26) rfl
 glo:=rfl
 blt:=rfl
 clo:=rfl
 bod:=rfl
 kind:=rfl
 co:=rfl
 gen:=rfl
 nd:=by decide +kernel
 dbg:=by decide +kernel
 nofree:=by decide +kernel
 par:=par_of rfl
 bind:=bind2 fun a b=>by kernel_rfl
noncomputable def fn_law_is_kept (lk:Lnk c):Fn c 252 where
 fd:=fd_law_is_kept
 body:=body_law_is_kept
 pn:=["parts", "later", "visits", "old", "pairs"]
 look:=⟨_,_,_,lk.look (o:=fo fd_law_is_kept) (by kernel_rfl)⟩
 code:=lk.cd (i:=27) rfl
 glo:=rfl
 blt:=rfl
 clo:=rfl
 bod:=rfl
 kind:=rfl
 co:=rfl
 gen:=rfl
 nd:=by decide +kernel
 dbg:=by decide +kernel
 nofree:=by decide +kernel
 par:=par_of rfl
 bind:=bind5 fun a b c d e=>by kernel_rfl
noncomputable def fn_law (lk:Lnk c):Fn c 257 where
 fd:=fd_law
 body:=body_law
 pn:=["script"]
 look:=⟨_,_,_,lk.look (o:=fo fd_law) (by kernel_rfl)⟩
 code:=lk.cd (i:=28) rfl
 glo:=rfl
 blt:=rfl
 clo:=rfl
 bod:=rfl
 kind:=rfl
 co:=rfl
 gen:=rfl
 nd:=by decide +kernel
 dbg:=by decide +kernel
 nofree:=by decide +kernel
 par:=par_of rfl
 bind:=bind1 fun a=>by kernel_rfl
end
noncomputable def m_reg:AM AFlow:=(sSeq (sRet (mTup [(pure (.str "r")),(mGet 0)])) sNil)
noncomputable def g_reg:List V -> List O -> Option (V × List O):=runFn 1 m_reg
noncomputable def m_num:AM AFlow:=(sSeq (sRet (mTup [(pure (.str "k")),(mOp opAnd (mGet 0) (pure (.int 4294967295)))])) sNil)
noncomputable def g_num:List V -> List O -> Option (V × List O):=runFn 2 m_num
noncomputable def m_Step_init:AM AFlow:=(sSeq (sAttr 45 "op" (mGet 0) (mGet 1)) (sSeq (sAttr 45 "dst" (mGet 0) (mGet 2)) (sSeq (sAttr 45 "args" (mGet 0) (mGet 3)) (sSeq (sAttr 45 "more" (mGet 0) (mGet 4)) (sSeq (sAttr 45 "is_volatile" (mGet 0) (pure (.bool false))) (sSeq (sAttr 45 "line" (mGet 0) (pure (.int 0))) sNil))))))
noncomputable def m_Block_init:AM AFlow:=(sSeq (sAttr 66 "number" (mGet 0) (mGet 1)) (sSeq (sAttr 66 "steps" (mGet 0) (mLstF [])) (sSeq (sAttr 66 "end" (mGet 0) (pure .none)) sNil)))
noncomputable def m_Func_init:AM AFlow:=(sSeq (sAttr 87 "name" (mGet 0) (mGet 1)) (sSeq (sAttr 87 "params" (mGet 0) (mLstF [])) (sSeq (sAttr 87 "is_static" (mGet 0) (pure (.bool false))) (sSeq (sAttr 87 "slots" (mGet 0) (mLstF [])) (sSeq (sAttr 87 "blocks" (mGet 0) (mLstO true [])) (sSeq (sAttr 87 "registers" (mGet 0) (pure (.int 0))) (sSeq (sAttr 87 "has_value" (mGet 0) (pure (.bool false))) sNil)))))))
noncomputable def m_Loop_init:AM AFlow:=(sSeq (sAttr 108 "header" (mGet 0) (mGet 1)) (sSeq (sAttr 108 "blocks" (mGet 0) (mGet 2)) (sSeq (sAttr 108 "tails" (mGet 0) (mGet 3)) sNil)))
noncomputable def m_in_place_of:AM AFlow:=(sSeq (sSet 5 (mNew 45 5 m_Step_init false [(mGet 1),(mGet 2),(mGet 3),(mGet 4)])) (sSeq (sAttr 45 "line" (mGet 5) (mAttr 45 5 "line" (mGet 0))) (sSeq (sRet (mFrz (mGet 5))) sNil)))
noncomputable def g_in_place_of:List V -> List O -> Option (V × List O):=runFn 7 m_in_place_of
noncomputable def m_steps_in:AM AFlow:=(sSeq (sSet 2 (mLstO false [])) (sSeq (sFor (tName 3) (mItems (mSortedB (mAttr 108 1 "blocks" (mGet 1)))) (sSeq (sFor (tTup [(tName 4),(tName 5)]) (mEnum [(mAttr 66 1 "steps" (mIdx (mAttr 87 4 "blocks" (mGet 0)) (mGet 3)))]) (sSeq (sExpr (mApp (mGet 2) (mTup [(mGet 3),(mGet 4),(mGet 5)]))) sNil)) sNil)) (sSeq (sRet (mFrz (mGet 2))) sNil)))
noncomputable def g_steps_in:List V -> List O -> Option (V × List O):=runFn 8 m_steps_in
noncomputable def m_sum_with:AM AFlow:=(sSeq (sIf (tCmp cNotIn (mAttr 45 0 "op" (mGet 0)) (mTup [(pure (.str "add")),(pure (.str "sub"))])) (sSeq (sRet (pure .none)) sNil) sNil) (sSeq (sSetT (tTup [(tName 2),(tName 3)]) (mAttr 45 2 "args" (mGet 0))) (sSeq (sIf (tAnd [(tCmp cEq (mGet 2) (mTup [(pure (.str "r")),(mGet 1)])),(tCmp cEq (mIdx (mGet 3) (pure (.int 0))) (pure (.str "k")))]) (sSeq (sRet (mIf (tCmp cEq (mAttr 45 0 "op" (mGet 0)) (pure (.str "add"))) (mIdx (mGet 3) (pure (.int 1))) (mOp opAnd (mNeg (mIdx (mGet 3) (pure (.int 1)))) (pure (.int 4294967295))))) sNil) sNil) (sSeq (sIf (tAnd [(tCmp cEq (mAttr 45 0 "op" (mGet 0)) (pure (.str "add"))),(tCmp cEq (mGet 3) (mTup [(pure (.str "r")),(mGet 1)])),(tCmp cEq (mIdx (mGet 2) (pure (.int 0))) (pure (.str "k")))]) (sSeq (sRet (mIdx (mGet 2) (pure (.int 1)))) sNil) sNil) (sSeq (sRet (pure .none)) sNil)))))
noncomputable def g_sum_with:List V -> List O -> Option (V × List O):=runFn 5 m_sum_with
noncomputable def m_growth_at:AM AFlow:=(sSeq (sSet 2 (mIdx (mGet 0) (mGet 1))) (sSeq (sIf (tOr [(tCmp cNe (mAttr 45 0 "op" (mGet 2)) (pure (.str "copy"))),(tCmp cNe (mIdx (mIdx (mAttr 45 2 "args" (mGet 2)) (pure (.int 0))) (pure (.int 0))) (pure (.str "r")))]) (sSeq (sRet (mCall g_sum_with [(mGet 2),(mAttr 45 1 "dst" (mGet 2))])) sNil) sNil) (sSeq (sSet 3 (mIdx (mIdx (mAttr 45 2 "args" (mGet 2)) (pure (.int 0))) (pure (.int 1)))) (sSeq (sSet 4 (mOp opSub (mGet 1) (pure (.int 1)))) (sSeq (whileM (tAnd [(tCmp cGe (mGet 4) (pure (.int 0))),(tCmp cNe (mAttr 45 1 "dst" (mIdx (mGet 0) (mGet 4))) (mAttr 45 1 "dst" (mGet 2)))]) (sSeq (sIf (tCmp cEq (mAttr 45 1 "dst" (mIdx (mGet 0) (mGet 4))) (mGet 3)) (sSeq (sRet (mCall g_sum_with [(mIdx (mGet 0) (mGet 4)),(mAttr 45 1 "dst" (mGet 2))])) sNil) sNil) (sSeq (sAug 4 opSub (pure (.int 1))) sNil)) 200) (sSeq (sRet (pure .none)) sNil))))))
noncomputable def g_growth_at:List V -> List O -> Option (V × List O):=runFn 6 m_growth_at
noncomputable def m_counters_of:AM AFlow:=(sSeq (sSet 2 (mAlloc false (.set []))) (sSeq (sSet 3 (mAlloc false (.set []))) (sSeq (sFor (tTup [(tName 4),(tName 5),(tName 6)]) (mItems (mGet 1)) (sSeq (sIf (tCmp cGe (mAttr 45 1 "dst" (mGet 6)) (pure (.int 0))) (sSeq (sIf (tCmp cIs (mCall g_growth_at [(mAttr 66 1 "steps" (mIdx (mAttr 87 4 "blocks" (mGet 0)) (mGet 4))),(mGet 5)]) (pure .none)) (sSeq (sExpr (mSetAdd (mGet 3) (mAttr 45 1 "dst" (mGet 6)))) sNil) (sSeq (sExpr (mSetAdd (mGet 2) (mAttr 45 1 "dst" (mGet 6)))) sNil)) sNil) sNil) sNil)) (sSeq (sRet (mDiff (mGet 2) (mGet 3))) sNil))))
noncomputable def g_counters_of:List V -> List O -> Option (V × List O):=runFn 9 m_counters_of
noncomputable def m_product_of:AM AFlow:=(sSeq (sIf (tCmp cNe (mAttr 45 0 "op" (mGet 0)) (pure (.str "mul"))) (sSeq (sRet (pure .none)) sNil) sNil) (sSeq (sSetT (tTup [(tName 2),(tName 3)]) (mAttr 45 2 "args" (mGet 0))) (sSeq (sIf (tCmp cEq (mIdx (mGet 2) (pure (.int 0))) (pure (.str "k"))) (sSeq (sSwap [3,2] (mTup [(mGet 3),(mGet 2)])) sNil) sNil) (sSeq (sIf (tOr [(tCmp cNe (mIdx (mGet 2) (pure (.int 0))) (pure (.str "r"))),(tCmp cNe (mIdx (mGet 3) (pure (.int 0))) (pure (.str "k"))),(tCmp cNotIn (mIdx (mGet 2) (pure (.int 1))) (mGet 1))]) (sSeq (sRet (pure .none)) sNil) sNil) (sSeq (sRet (mTup [(mIdx (mGet 2) (pure (.int 1))),(mIdx (mGet 3) (pure (.int 1)))])) sNil)))))
noncomputable def g_product_of:List V -> List O -> Option (V × List O):=runFn 4 m_product_of
noncomputable def m_products_in:AM AFlow:=(sSeq (sSet 2 (mCompE (fun _=>none) (mComp [none,none] (mItems (mGet 1)) (tName 1) (tCmp cEq (mAttr 45 0 "op" (mIdx (mGet 1) (pure (.int 2)))) (pure (.str "mul"))) (mGet 1)))) (sSeq (sIf (tNot (tVal (mGet 2))) (sSeq (sRet (mLstF [])) sNil) sNil) (sSeq (sSet 3 (mCall g_counters_of [(mGet 0),(mGet 1)])) (sSeq (sSet 4 (mAlloc false (.dctT []))) (sSeq (sFor (tTup [(tName 5),(tName 6),(tName 7)]) (mItems (mGet 2)) (sSeq (sSet 8 (mCall g_product_of [(mGet 7),(mGet 3)])) (sSeq (sIf (tCmp cIsNot (mGet 8) (pure .none)) (sSeq (sSub (mGet 4) (mGet 8) (pure (.bool true))) sNil) sNil) sNil))) (sSeq (sRet (mSorted (mGet 4))) sNil))))))
noncomputable def g_products_in:List V -> List O -> Option (V × List O):=runFn 12 m_products_in
noncomputable def m_held_counters:AM AFlow:=(sSeq (sRet (mSetOf (mCompE (fun _=>none) (mComp [none,none,none] (mItems (mSorted (mGet 0))) (tTup [(tName 1),(tName 2)]) (pure true) (mGet 1))))) sNil)
noncomputable def g_held_counters:List V -> List O -> Option (V × List O):=runFn 3 m_held_counters
noncomputable def m_additions_for:AM AFlow:=(sSeq (sSet 3 (mLstO false [])) (sSeq (sFor (tTup [(tName 4),(tName 5)]) (mItems (mSorted (mGet 2))) (sSeq (sIf (tCmp cEq (mGet 4) (mAttr 45 1 "dst" (mGet 0))) (sSeq (sSet 6 (mIdx (mGet 2) (mTup [(mGet 4),(mGet 5)]))) (sSeq (sExpr (mApp (mGet 3) (mCall g_in_place_of [(mGet 0),(pure (.str "add")),(mGet 6),(mLstF [(mCall g_reg [(mGet 6)]),(mCall g_num [(mOp opMul (mGet 1) (mGet 5))])]),(pure (.int 0))]))) sNil)) sNil) sNil)) (sSeq (sRet (mFrz (mGet 3))) sNil)))
noncomputable def g_additions_for:List V -> List O -> Option (V × List O):=runFn 11 m_additions_for
noncomputable def m_grown_along:AM AFlow:=(sSeq (sSet 3 (mCall g_held_counters [(mGet 2)])) (sSeq (sFor (tName 4) (mItems (mSortedB (mAttr 108 1 "blocks" (mGet 1)))) (sSeq (sSet 5 (mIdx (mAttr 87 4 "blocks" (mGet 0)) (mGet 4))) (sSeq (sSet 6 (mLstO false [])) (sSeq (sFor (tTup [(tName 7),(tName 8)]) (mEnum [(mAttr 66 1 "steps" (mGet 5))]) (sSeq (sSet 9 (mCall g_product_of [(mGet 8),(mGet 3)])) (sSeq (sIf (tAnd [(tCmp cIsNot (mGet 9) (pure .none)),(tCmp cIn (mGet 9) (mGet 2))]) (sSeq (sExpr (mApp (mGet 6) (mCall g_in_place_of [(mGet 8),(pure (.str "copy")),(mAttr 45 1 "dst" (mGet 8)),(mLstF [(mCall g_reg [(mIdx (mGet 2) (mGet 9))])]),(pure (.int 0))]))) sNil) (sSeq (sExpr (mApp (mGet 6) (mGet 8))) sNil)) (sSeq (sIf (tCmp cIn (mAttr 45 1 "dst" (mGet 8)) (mGet 3)) (sSeq (sExpr (mExt (mGet 6) (mCall g_additions_for [(mGet 8),(mCall g_growth_at [(mAttr 66 1 "steps" (mGet 5)),(mGet 7)]),(mGet 2)]))) sNil) sNil) sNil)))) (sSeq (sAttr 66 "steps" (mGet 5) (mFrz (mGet 6))) sNil))))) sNil))
noncomputable def g_grown_along:List V -> List O -> Option (V × List O):=runFn 18 m_grown_along
noncomputable def m_multiply_ahead:AM AFlow:=(sSeq (sSet 4 (mAlloc false (.dctT []))) (sSeq (sFor (tTup [(tName 5),(tName 6)]) (mItems (mGet 3)) (sSeq (sSet 7 (mAttr 87 5 "registers" (mGet 0))) (sSeq (sAugA 87 5 "registers" opAdd (mGet 0) (pure (.int 1))) (sSeq (sSub (mGet 4) (mTup [(mGet 5),(mGet 6)]) (mGet 7)) (sSeq (sExpr (mApp (mAttr 66 1 "steps" (mGet 2)) (mFrz (mNew 45 5 m_Step_init false [(pure (.str "mul")),(mGet 7),(mLstF [(mCall g_reg [(mGet 5)]),(mCall g_num [(mGet 6)])]),(pure (.int 0))])))) sNil))))) (sSeq (sExpr (mCall g_grown_along [(mGet 0),(mGet 1),(mFrz (mGet 4))])) sNil)))
noncomputable def g_multiply_ahead:List V -> List O -> Option (V × List O):=runFn 12 m_multiply_ahead
noncomputable def m_law_draw:AM AFlow:=(sSeq (sSwap [3,2] (mTup [(mIdx (mGet 0) (pure (.int 0))),(mIdx (mGet 0) (pure (.int 1)))])) (sSeq (sSub (mGet 0) (pure (.int 1)) (mOp opAdd (mGet 3) (pure (.int 1)))) (sSeq (sRet (mIf (tCmp cLt (mGet 3) (mLen (mGet 2))) (mOp opMod (mIdx (mGet 2) (mGet 3)) (mGet 1)) (mOp opMod (mOp opMod (mOp opAdd (mOp opMul (mGet 3) (pure (.int 389))) (mIdx (mGet 0) (pure (.int 2)))) (pure (.int 1009))) (mGet 1)))) sNil)))
noncomputable def g_law_draw:List V -> List O -> Option (V × List O):=runFn 5 m_law_draw
noncomputable def m_law_kind:AM AFlow:=(sSeq (sSwap [4,3] (mTup [(mTup [(pure (.str "r")),(mGet 1)]),(mOp opMod (mOp opAdd (mGet 1) (pure (.int 1))) (pure (.int 4)))])) (sSeq (sSet 5 (mTup [(mLstF [(mTup [(pure (.str "add")),(mGet 1),(mLstF [(mGet 3),(mGet 2)])])]),(mLstF [(mTup [(pure (.str "add")),(mGet 1),(mLstF [(mGet 2),(mGet 3)])])]),(mLstF [(mTup [(pure (.str "sub")),(mGet 1),(mLstF [(mGet 3),(mGet 2)])])]),(mLstF [(mTup [(pure (.str "add")),(mGet 4),(mLstF [(mGet 2),(mGet 3)])]),(mTup [(pure (.str "copy")),(mGet 1),(mLstF [(mTup [(pure (.str "r")),(mGet 4)])])])]),(mLstF [(mTup [(pure (.str "sub")),(mGet 4),(mLstF [(mGet 3),(mGet 2)])]),(mTup [(pure (.str "call")),(mNeg (pure (.int 1))),(mLstF [(mGet 3)])]),(mTup [(pure (.str "copy")),(mGet 1),(mLstF [(mTup [(pure (.str "r")),(mGet 4)])])])]),(mLstF [(mTup [(pure (.str "mul")),(pure (.int 4)),(mLstF [(mGet 3),(mGet 2)])])]),(mLstF [(mTup [(pure (.str "mul")),(pure (.int 4)),(mLstF [(mGet 2),(mGet 3)])])]),(mLstF [(mTup [(pure (.str "mul")),(mGet 4),(mLstF [(mGet 3),(mTup [(pure (.str "r")),(pure (.int 0))])])])]),(mLstF [(mTup [(pure (.str "mul")),(pure (.int 4)),(mLstF [(mGet 2),(mGet 2)])])]),(mLstF [(mTup [(pure (.str "add")),(mGet 4),(mLstF [(mGet 3),(mGet 2)])])]),(mLstF [(mTup [(pure (.str "copy")),(mGet 1),(mLstF [(mTup [(pure (.str "r")),(mGet 4)])])])]),(mLstF [(mTup [(pure (.str "add")),(mGet 4),(mLstF [(mGet 3),(mGet 2)])]),(mTup [(pure (.str "add")),(mGet 1),(mLstF [(mGet 3),(mGet 2)])]),(mTup [(pure (.str "copy")),(mGet 1),(mLstF [(mTup [(pure (.str "r")),(mGet 4)])])])]),(mLstF [(mTup [(pure (.str "sub")),(mGet 1),(mLstF [(mGet 2),(mGet 3)])])]),(mLstF [(mTup [(pure (.str "mul")),(mGet 1),(mLstF [(mGet 3),(mGet 2)])])])])) (sSeq (sRet (mIdx (mGet 5) (mGet 0))) sNil)))
noncomputable def g_law_kind:List V -> List O -> Option (V × List O):=runFn 6 m_law_kind
noncomputable def m_law_parts:AM AFlow:=(sSeq (sSet 2 (mTup [(pure (.str "k")),(mCall g_law_draw [(mGet 0),(pure (.int 4294967296))])])) (sSeq (sSet 3 (mIf (tCmp cEq (mCall g_law_draw [(mGet 0),(pure (.int 2))]) (pure (.int 0))) (mGet 2) (mTup [(pure (.str "k")),(mCall g_law_draw [(mGet 0),(pure (.int 4294967296))])]))) (sSeq (sSet 5 (mCompE (fun _=>none) (mComp [none,none] (mRange [(mGet 1)]) (tName 1) (pure true) (mLstO false [])))) (sSeq (sExpr (mApp (mIdx (mGet 5) (pure (.int 0))) (mTup [(pure (.str "mul")),(pure (.int 4)),(mLstF [(mTup [(pure (.str "r")),(pure (.int 0))]),(mGet 2)])]))) (sSeq (sFor (tName 4) (mRange [(mOp opAdd (pure (.int 1)) (mCall g_law_draw [(mGet 0),(pure (.int 5))]))]) (sSeq (sSwap [7,6] (mTup [(mCall g_law_draw [(mGet 0),(pure (.int 14))]),(mCall g_law_draw [(mGet 0),(pure (.int 3))])])) (sSeq (sExpr (mExt (mIdx (mGet 5) (mOp opMod (mGet 4) (mGet 1))) (mCall g_law_kind [(mGet 6),(mGet 7),(mTup [(pure (.str "k")),(mCall g_law_draw [(mGet 0),(pure (.int 4294967296))])])]))) sNil))) (sSeq (sExpr (mApp (mIdx (mGet 5) (mNeg (pure (.int 1)))) (mTup [(pure (.str "mul")),(pure (.int 4)),(mLstF [(mGet 3),(mTup [(pure (.str "r")),(pure (.int 0))])])]))) (sSeq (sSet 6 (mCall g_law_draw [(mGet 0),(pure (.int 5))])) (sSeq (sExpr (mExt (mIdx (mGet 5) (mNeg (pure (.int 1)))) (mCall g_law_kind [(mGet 6),(pure (.int 0)),(mTup [(pure (.str "k")),(mCall g_law_draw [(mGet 0),(pure (.int 4294967296))])])]))) (sSeq (sSet 8 (mLstF [(mTup [(pure (.str "sub")),(pure (.int 0)),(mLstF [(mTup [(pure (.str "r")),(pure (.int 1))]),(mGet 2)])])])) (sSeq (sSet 9 (mLstF [(mTup [(pure (.str "mul")),(pure (.int 4)),(mLstF [(mTup [(pure (.str "r")),(pure (.int 0))]),(mGet 2)])]),(mTup [(pure (.str "const")),(pure (.int 0)),(mLstF [(mGet 3)])])])) (sSeq (sRet (mFrzL (mAddL (fun _=>none) (mAddL (fun _=>none) (mLstF [(mGet 8)]) (mGet 5)) (mLstF [(mGet 9)])))) sNil)))))))))))
noncomputable def g_law_parts:List V -> List O -> Option (V × List O):=runFn 14 m_law_parts
noncomputable def m_law_made:AM AFlow:=(sSeq (sSet 1 (mNew 87 2 m_Func_init true [(pure (.str "f"))])) (sSeq (sAttr 87 "registers" (mGet 1) (pure (.int 5))) (sSeq (sFor (tTup [(tName 2),(tName 3)]) (mEnum [(mGet 0)]) (sSeq (sSet 4 (mNew 66 2 m_Block_init true [(mGet 2)])) (sSeq (sAttr 66 "steps" (mGet 4) (mCompE (zeroAt 2) (mComp [none,none,none,none,none,none] (mItems (mGet 3)) (tTup [(tName 1),(tName 2),(tName 3)]) (pure true) (mFrz (mNew 45 5 m_Step_init false [(mGet 1),(mGet 2),(mListC (fun _=>none) (mGet 3)),(mIf (tCmp cEq (mGet 1) (pure (.str "call"))) (pure (.str "see")) (pure (.int 0)))]))))) (sSeq (sExpr (mApp (mAttr 87 4 "blocks" (mGet 1)) (mGet 4))) sNil)))) (sSeq (sRet (mGet 1)) sNil))))
noncomputable def g_law_made:List V -> List O -> Option (V × List O):=runFn 8 m_law_made
noncomputable def m_law_sum:AM AFlow:=(sSeq (sIf (tAnd [(tCmp cEq (mGet 0) (pure (.str "add"))),(tCmp cEq (mIdx (mIdx (mGet 1) (pure (.int 0))) (pure (.int 0))) (pure (.str "k"))),(tCmp cEq (mIdx (mIdx (mGet 1) (pure (.int 1))) (pure (.int 0))) (pure (.str "r")))]) (sSeq (sRet (mTup [(mIdx (mIdx (mGet 1) (pure (.int 1))) (pure (.int 1))),(mIdx (mIdx (mGet 1) (pure (.int 0))) (pure (.int 1)))])) sNil) sNil) (sSeq (sIf (tOr [(tCmp cNotIn (mGet 0) (mTup [(pure (.str "add")),(pure (.str "sub"))])),(tCmp cNe (mIdx (mIdx (mGet 1) (pure (.int 0))) (pure (.int 0))) (pure (.str "r"))),(tCmp cNe (mIdx (mIdx (mGet 1) (pure (.int 1))) (pure (.int 0))) (pure (.str "k")))]) (sSeq (sRet (mTup [(mNeg (pure (.int 1))),(pure (.int 0))])) sNil) sNil) (sSeq (sRet (mTup [(mIdx (mIdx (mGet 1) (pure (.int 0))) (pure (.int 1))),(mIf (tCmp cEq (mGet 0) (pure (.str "add"))) (mIdx (mIdx (mGet 1) (pure (.int 1))) (pure (.int 1))) (mOp opMod (mOp opSub (pure (.int 0)) (mIdx (mIdx (mGet 1) (pure (.int 1))) (pure (.int 1)))) (pure (.int 4294967296))))])) sNil)))
noncomputable def g_law_sum:List V -> List O -> Option (V × List O):=runFn 3 m_law_sum
noncomputable def m_law_growths:AM AFlow:=(sSeq (sSwap [3,2,1] (mTup [(mAlloc false (.dctI [])),(mAlloc false (.dctI [])),(mLstO false [])])) (sSeq (sFor (tTup [(tName 4),(tName 5),(tName 6)]) (mItems (mGet 0)) (sSeq (sSetT (tTup [(tName 7),(tName 8)]) (mCall g_law_sum [(mGet 4),(mGet 6)])) (sSeq (sSet 9 (mTup [(mGet 7),(mGet2 (mGet 2) (mGet 7) (pure (.int 0))),(mGet 8)])) (sSeq (sIf (tCmp cEq (mGet 4) (pure (.str "copy"))) (sSeq (sSet 9 (mGet2 (mGet 1) (mIdx (mIdx (mGet 6) (pure (.int 0))) (pure (.int 1))) (mTup [(mNeg (pure (.int 1))),(pure (.int 0)),(pure (.int 0))]))) sNil) sNil) (sSeq (sSet 10 (mAnd [(mCmp cGe (mGet 5) (pure (.int 0))),(mCmp cEq (mIdx (mGet 9) (pure (.int 0))) (mGet 5)),(mCmp cEq (mIdx (mGet 9) (pure (.int 1))) (mGet2 (mGet 2) (mGet 5) (pure (.int 0))))])) (sSeq (sExpr (mApp (mGet 3) (mIf (tVal (mGet 10)) (mIdx (mGet 9) (pure (.int 2))) (pure .none)))) (sSeq (sSub (mGet 1) (mGet 5) (mIf (tCmp cNe (mGet 4) (pure (.str "copy"))) (mGet 9) (mTup [(mNeg (pure (.int 1))),(pure (.int 0)),(pure (.int 0))]))) (sSeq (sSub (mGet 2) (mGet 5) (mOp opAdd (mGet2 (mGet 2) (mGet 5) (pure (.int 0))) (pure (.int 1)))) sNil)))))))) (sSeq (sRet (mFrz (mGet 3))) sNil)))
noncomputable def g_law_growths:List V -> List O -> Option (V × List O):=runFn 12 m_law_growths
noncomputable def m_law_pair:AM AFlow:=(sSeq (sSetT (tTup [(tName 1),(tName 2),(tName 3)]) (mGet 0)) (sSeq (sIf (tOr [(tCmp cNe (mGet 1) (pure (.str "mul"))),(tCmp cEq (mIdx (mIdx (mGet 3) (pure (.int 0))) (pure (.int 0))) (mIdx (mIdx (mGet 3) (pure (.int 1))) (pure (.int 0))))]) (sSeq (sRet (pure .none)) sNil) sNil) (sSeq (sRet (mTup [(mIdx (mPick true (mGet 3)) (pure (.int 1))),(mIdx (mPick false (mGet 3)) (pure (.int 1)))])) sNil)))
noncomputable def g_law_pair:List V -> List O -> Option (V × List O):=runFn 6 m_law_pair
noncomputable def m_law_pairs:AM AFlow:=(sSeq (sSwap [3,2,1] (mTup [(mAlloc false (.dctI [])),(mAlloc false (.dctI [])),(mLstO false [])])) (sSeq (sFor (tName 4) (mItems (mGet 0)) (sSeq (sFor (tTup [(tName 5),(tName 6)]) (mZip [(mGet 4),(mCall g_law_growths [(mGet 4)])]) (sSeq (sIf (tCmp cIs (mGet 6) (pure .none)) (sSeq (sSub (mGet 2) (mIdx (mGet 5) (pure (.int 1))) (pure (.bool true))) sNil) (sSeq (sSub (mGet 1) (mIdx (mGet 5) (pure (.int 1))) (pure (.bool true))) sNil)) sNil)) sNil)) (sSeq (sFor (tName 4) (mItems (mGet 0)) (sSeq (sFor (tName 5) (mItems (mGet 4)) (sSeq (sSet 7 (mCall g_law_pair [(mGet 5)])) (sSeq (sIf (tAnd [(tCmp cIsNot (mGet 7) (pure .none)),(tCmp cIn (mIdx (mGet 7) (pure (.int 0))) (mGet 1)),(tCmp cNotIn (mIdx (mGet 7) (pure (.int 0))) (mGet 2)),(tCmp cNotIn (mGet 7) (mGet 3))]) (sSeq (sExpr (mApp (mGet 3) (mGet 7))) sNil) sNil) sNil))) sNil)) (sSeq (sRet (mSorted (mGet 3))) sNil))))
noncomputable def g_law_pairs:List V -> List O -> Option (V × List O):=runFn 12 m_law_pairs
noncomputable def m_law_do:AM AFlow:=(sSeq (sSetT (tTup [(tName 2),(tName 3),(tName 4)]) (mGet 1)) (sSeq (sSet 5 (mCompE (fun _=>none) (mComp [none,none,none,some 0] (mItems (mGet 4)) (tTup [(tName 1),(tName 2)]) (pure true) (mIf (tCmp cEq (mGet 1) (pure (.str "r"))) (mIdx (mGet 3) (mGet 2)) (mGet 2))))) (sSeq (sSet 6 (mIdx (mGet 5) (pure (.int 0)))) (sSeq (sIf (tCmp cEq (mGet 2) (pure (.str "add"))) (sSeq (sSet 6 (mOp opAdd (mIdx (mGet 5) (pure (.int 0))) (mIdx (mGet 5) (pure (.int 1))))) sNil) (sSeq (sIf (tCmp cEq (mGet 2) (pure (.str "sub"))) (sSeq (sSet 6 (mOp opSub (mIdx (mGet 5) (pure (.int 0))) (mIdx (mGet 5) (pure (.int 1))))) sNil) (sSeq (sIf (tCmp cEq (mGet 2) (pure (.str "mul"))) (sSeq (sSet 6 (mOp opMul (mIdx (mGet 5) (pure (.int 0))) (mIdx (mGet 5) (pure (.int 1))))) sNil) sNil) sNil)) sNil)) (sSeq (sIf (tCmp cGe (mGet 3) (pure (.int 0))) (sSeq (sSub (mGet 0) (mGet 3) (mOp opMod (mGet 6) (pure (.int 4294967296)))) sNil) sNil) sNil)))))
noncomputable def g_law_do:List V -> List O -> Option (V × List O):=runFn 8 m_law_do
noncomputable def m_law_due:AM AFlow:=(sSeq (sRet (mAddL (fun _=>none) (mGet 0) (mCompE (fun _=>none) (mComp [none,none,none,none,some 0] (mItems (mGet 1)) (tTup [(tName 1),(tName 2)]) (pure true) (mOp opMod (mOp opMul (mIdx (mGet 4) (mGet 1)) (mGet 2)) (pure (.int 4294967296))))))) sNil)
noncomputable def g_law_due:List V -> List O -> Option (V × List O):=runFn 2 m_law_due
noncomputable def m_law_is_kept:AM AFlow:=(sSeq (sSet 5 (mAddL (fun _=>some true) (mGet 3) (mCompE (fun _=>none) (mComp [none,none] (mItems (mGet 4)) (tName 1) (pure true) (pure (.int 0)))))) (sSeq (sFor (tName 6) (mItems (mIdx (mGet 0) (pure (.int 0)))) (sSeq (sExpr (mCall g_law_do [(mGet 3),(mGet 6)])) sNil)) (sSeq (sFor (tName 6) (mItems (mIdx (mGet 1) (pure (.int 0)))) (sSeq (sExpr (mCall g_law_do [(mGet 5),(mGet 6)])) sNil)) (sSeq (sIf (tOr [(tCmp cNe (mSlice (mIdx (mGet 1) (pure (.int 0))) none (some (mLen (mIdx (mGet 0) (pure (.int 0)))))) (mIdx (mGet 0) (pure (.int 0)))),(tCmp cNe (mGet 5) (mCall g_law_due [(mGet 3),(mGet 4)]))]) (sSeq (sRet (pure (.bool false))) sNil) sNil) (sSeq (sFor (tName 7) (mItems (mGet 2)) (sSeq (sSet 8 (pure (.int 0))) (sSeq (sFor (tName 6) (mItems (mIdx (mGet 0) (mGet 7))) (sSeq (sExpr (mCall g_law_do [(mGet 3),(mGet 6)])) (sSeq (sExpr (mCall g_law_do [(mGet 5),(mIdx (mIdx (mGet 1) (mGet 7)) (mGet 8))])) (sSeq (sSet 8 (mOp opAdd (mGet 8) (pure (.int 1)))) (sSeq (whileM (tAnd [(tCmp cLt (mGet 8) (mLen (mIdx (mGet 1) (mGet 7)))),(tCmp cGt (mIdx (mIdx (mIdx (mGet 1) (mGet 7)) (mGet 8)) (pure (.int 1))) (pure (.int 4)))]) (sSeq (sExpr (mCall g_law_do [(mGet 5),(mIdx (mIdx (mGet 1) (mGet 7)) (mGet 8))])) (sSeq (sSet 8 (mOp opAdd (mGet 8) (pure (.int 1)))) sNil)) 200) (sSeq (sIf (tCmp cNe (mGet 5) (mCall g_law_due [(mGet 3),(mGet 4)])) (sSeq (sRet (pure (.bool false))) sNil) sNil) sNil)))))) (sSeq (sIf (tCmp cNe (mGet 8) (mLen (mIdx (mGet 1) (mGet 7)))) (sSeq (sRet (pure (.bool false))) sNil) sNil) sNil)))) (sSeq (sSet 9 (mCompE (fun _=>none) (mComp2 [none,none,none,none,some 4] (mItems (mSlice (mGet 1) (some (pure (.int 1))) (some (mNeg (pure (.int 1)))))) (tName 1) (mItems (mGet 1)) (tName 2) (tCmp cIn (mCall g_law_pair [(mGet 2)]) (mGet 4)) (mGet 2)))) (sSeq (sRet (mAnd [(mCmp cEq (mGet 9) (mLstF [])),(mCmp cEq (mIdx (mGet 1) (mNeg (pure (.int 1)))) (mIdx (mGet 0) (mNeg (pure (.int 1)))))])) sNil)))))))
noncomputable def g_law_is_kept:List V -> List O -> Option (V × List O):=runFn 13 m_law_is_kept
noncomputable def m_law:AM AFlow:=(sSeq (sSet 1 (mCompE (fun _=>none) (mComp [none,none,none,none] (mItems (mGet 0)) (tName 1) (pure true) (mOp opMod (mInt (mGet 1)) (pure (.int 4294967296)))))) (sSeq (sSet 2 (mLstO true [(mGet 1),(pure (.int 0)),(mOp opMod (mSum (mGet 1)) (pure (.int 1009)))])) (sSeq (sSet 3 (mOp opAdd (pure (.int 1)) (mCall g_law_draw [(mGet 2),(pure (.int 3))]))) (sSeq (sSet 4 (mCall g_law_parts [(mGet 2),(mGet 3)])) (sSeq (sSwap [6,5] (mTup [(mCall g_law_made [(mGet 4)]),(mFrz (mNew 108 4 m_Loop_init false [(pure (.int 1)),(mSetR (pure (.int 1)) (mOp opAdd (mGet 3) (pure (.int 1)))),(mLstF [(mGet 3)])]))])) (sSeq (sFor (tName 7) (mRange [(pure (.int 1)),(mOp opAdd (mGet 3) (pure (.int 1)))]) (sSeq (sSet 8 (mAttr 66 1 "steps" (mIdx (mAttr 87 4 "blocks" (mGet 5)) (mGet 7)))) (sSeq (sIf (tCmp cNe (mCompE (fun _=>none) (mComp [none,none,none,some 8] (mRange [(mLen (mGet 8))]) (tName 1) (pure true) (mCall g_growth_at [(mGet 3),(mGet 1)]))) (mCall g_law_growths [(mIdx (mGet 4) (mGet 7))])) (sSeq (sRet (pure (.bool false))) sNil) sNil) sNil))) (sSeq (sSet 9 (mCall g_products_in [(mGet 5),(mCall g_steps_in [(mGet 5),(mGet 6)])])) (sSeq (sIf (tCmp cNe (mGet 9) (mCall g_law_pairs [(mSlice (mGet 4) (some (pure (.int 1))) (some (mNeg (pure (.int 1)))))])) (sSeq (sRet (pure (.bool false))) sNil) sNil) (sSeq (sExpr (mCall g_multiply_ahead [(mGet 5),(mGet 6),(mIdx (mAttr 87 4 "blocks" (mGet 5)) (pure (.int 0))),(mGet 9)])) (sSeq (sSet 10 (mCall g_law_draw [(mGet 2),(pure (.int 4))])) (sSeq (sSet 11 (mAddL (fun _=>none) (mListR (pure (.int 1)) (mOp opAdd (mGet 3) (pure (.int 1)))) (mCompE (fun _=>none) (mComp [none,none,none,some 3,some 2] (mRange [(mGet 10)]) (tName 1) (pure true) (mOp opAdd (pure (.int 1)) (mCall g_law_draw [(mGet 4),(mGet 3)])))))) (sSeq (sSet 12 (mAddL (fun _=>some true) (mCompE (fun _=>none) (mComp [none,none,none,none,some 2] (mRange [(pure (.int 4))]) (tName 1) (pure true) (mCall g_law_draw [(mGet 4),(pure (.int 4294967296))]))) (mLstF [(pure (.int 0))]))) (sSeq (sSet 13 (mCompE (fun _=>none) (mComp [none,none] (mItems (mFrz (mAttr 87 4 "blocks" (mGet 5)))) (tName 1) (pure true) (mCompE (fun _=>none) (mComp [none,none,none] (mItems (mFrz (mAttr 66 1 "steps" (mGet 1)))) (tName 1) (pure true) (mTup [(mAttr 45 0 "op" (mGet 1)),(mAttr 45 1 "dst" (mGet 1)),(mListC (fun _=>none) (mAttr 45 2 "args" (mGet 1)))])))))) (sSeq (sRet (mCall g_law_is_kept [(mGet 4),(mGet 13),(mGet 11),(mGet 12),(mGet 9)])) sNil))))))))))))))
noncomputable def g_law:List V -> List O -> Option (V × List O):=runFn 29 m_law
section
variable {c:Cx}
theorem rs_reg (lk:Lnk c) {L:Addr} (ok:EnvOK ((fn_reg lk).env L)):RS c 0 ((fn_reg lk).env L) (execs body_reg ((fn_reg lk).env L)) m_reg :=
 (rsSeq (rsRet (rTup ok (rxCons rStr (rxCons (rGetL ok rfl) rxNil)))) rsNil)
theorem fs_reg (lk:Lnk c):FSpec c 1 21 1 g_reg:=fspec_of lk.G (fn_reg lk) fun L ok=>rs_reg lk ok
theorem rs_num (lk:Lnk c) {L:Addr} (ok:EnvOK ((fn_num lk).env L)):RS c 0 ((fn_num lk).env L) (execs body_num ((fn_num lk).env L)) m_num :=
 (rsSeq (rsRet (rTup ok (rxCons rStr (rxCons (rOp isAnd (rGetL ok rfl) (rGInt lk.G ok (i:=1) rfl lk.v_MASK)) rxNil)))) rsNil)
theorem fs_num (lk:Lnk c):FSpec c 1 28 1 g_num:=fspec_of lk.G (fn_num lk) fun L ok=>rs_num lk ok
theorem rs_Step_init (lk:Lnk c) {d:Nat} {L:Addr} (ok:EnvOK ((fn_Step_init lk).env L)):RS c d ((fn_Step_init lk).env L) (execs body_Step_init ((fn_Step_init lk).env L)) m_Step_init :=
 (rsSeq (rsAttr lk.k_Step (by decide) (rGetL ok rfl) (rGetL ok rfl)) (rsSeq (rsAttr lk.k_Step (by decide) (rGetL ok rfl) (rGetL ok rfl)) (rsSeq (rsAttr lk.k_Step (by decide) (rGetL ok rfl) (rGetL ok rfl)) (rsSeq (rsAttr lk.k_Step (by decide) (rGetL ok rfl) (rGetL ok rfl)) (rsSeq (rsAttr lk.k_Step (by decide) (rGetL ok rfl) rBool) (rsSeq (rsAttr lk.k_Step (by decide) (rGetL ok rfl) rInt) rsNil))))))
theorem rs_Block_init (lk:Lnk c) {d:Nat} {L:Addr} (ok:EnvOK ((fn_Block_init lk).env L)):RS c d ((fn_Block_init lk).env L) (execs body_Block_init ((fn_Block_init lk).env L)) m_Block_init :=
 (rsSeq (rsAttr lk.k_Block (by decide) (rGetL ok rfl) (rGetL ok rfl)) (rsSeq (rsAttr lk.k_Block (by decide) (rGetL ok rfl) (rLstF ok rxNil)) (rsSeq (rsAttr lk.k_Block (by decide) (rGetL ok rfl) rNone) rsNil)))
theorem rs_Func_init (lk:Lnk c) {d:Nat} {L:Addr} (ok:EnvOK ((fn_Func_init lk).env L)):RS c d ((fn_Func_init lk).env L) (execs body_Func_init ((fn_Func_init lk).env L)) m_Func_init :=
 (rsSeq (rsAttr lk.k_Func (by decide) (rGetL ok rfl) (rGetL ok rfl)) (rsSeq (rsAttr lk.k_Func (by decide) (rGetL ok rfl) (rLstF ok rxNil)) (rsSeq (rsAttr lk.k_Func (by decide) (rGetL ok rfl) rBool) (rsSeq (rsAttr lk.k_Func (by decide) (rGetL ok rfl) (rLstF ok rxNil)) (rsSeq (rsAttr lk.k_Func (by decide) (rGetL ok rfl) (rLstO ok rxNil)) (rsSeq (rsAttr lk.k_Func (by decide) (rGetL ok rfl) rInt) (rsSeq (rsAttr lk.k_Func (by decide) (rGetL ok rfl) rBool) rsNil)))))))
theorem rs_Loop_init (lk:Lnk c) {d:Nat} {L:Addr} (ok:EnvOK ((fn_Loop_init lk).env L)):RS c d ((fn_Loop_init lk).env L) (execs body_Loop_init ((fn_Loop_init lk).env L)) m_Loop_init :=
 (rsSeq (rsAttr lk.k_Loop (by decide) (rGetL ok rfl) (rGetL ok rfl)) (rsSeq (rsAttr lk.k_Loop (by decide) (rGetL ok rfl) (rGetL ok rfl)) (rsSeq (rsAttr lk.k_Loop (by decide) (rGetL ok rfl) (rGetL ok rfl)) rsNil)))
theorem rs_in_place_of (lk:Lnk c) {L:Addr} (ok:EnvOK ((fn_in_place_of lk).env L)):RS c 2 ((fn_in_place_of lk).env L) (execs body_in_place_of ((fn_in_place_of lk).env L)) m_in_place_of :=
 (rsSeq (rsSetL ok rfl (rNew lk.G ok lk.mk_Step (fn_Step_init lk) (fun L ok=>rs_Step_init lk ok) (i:=6) rfl lk.v_Step rfl (rxCons (rGetL ok rfl) (rxCons (rGetL ok rfl) (rxCons (rGetL ok rfl) (rxCons (rGetL ok rfl) rxNil)))))) (rsSeq (rsAttr lk.k_Step (by decide) (rGetL ok rfl) (rAttr lk.k_Step (i:=5) (by decide) (rGetL ok rfl))) (rsSeq (rsRet (rFrz ok (rGetL ok rfl))) rsNil)))
theorem fs_in_place_of (lk:Lnk c):FSpec c 3 119 5 g_in_place_of:=fspec_of lk.G (fn_in_place_of lk) fun L ok=>rs_in_place_of lk ok
theorem rs_steps_in (lk:Lnk c) {L:Addr} (ok:EnvOK ((fn_steps_in lk).env L)):RS c 0 ((fn_steps_in lk).env L) (execs body_steps_in ((fn_steps_in lk).env L)) m_steps_in :=
 (rsSeq (rsSetL ok rfl (rLstO ok rxNil)) (rsSeq (rsFor ok (tarNameL ok rfl) (riListN ok (rSortedB lk.G ok (i:=6) rfl lk.n_sorted lk.b_sorted (rxCons (rAttr lk.k_Loop (i:=1) (by decide) (rGetL ok rfl)) rxNil))) (rsSeq (rsFor ok (tarTup (.cons (tarNameL ok rfl) (.cons (tarNameL ok rfl) .nil (fun _=>rfl)) (fun _=>rfl))) (ri_enum lk.G ok (i:=7) rfl lk.n_enumerate lk.b_enumerate (rxCons (rAttr lk.k_Block (i:=1) (by decide) (rIdx (rAttr lk.k_Func (i:=4) (by decide) (rGetL ok rfl)) (rGetL ok rfl))) rxNil)) (rsSeq (rsExpr ok (rApp (rGetL ok rfl) (rTup ok (rxCons (rGetL ok rfl) (rxCons (rGetL ok rfl) (rxCons (rGetL ok rfl) rxNil)))))) rsNil)) rsNil)) (rsSeq (rsRet (rFrz ok (rGetL ok rfl))) rsNil)))
theorem fs_steps_in (lk:Lnk c):FSpec c 1 126 2 g_steps_in:=fspec_of lk.G (fn_steps_in lk) fun L ok=>rs_steps_in lk ok
theorem rs_sum_with (lk:Lnk c) {L:Addr} (ok:EnvOK ((fn_sum_with lk).env L)):RS c 0 ((fn_sum_with lk).env L) (execs body_sum_with ((fn_sum_with lk).env L)) m_sum_with :=
 (rsSeq (rsIf (rtCmp (isNotIn lk.G.sys) (rAttr lk.k_Step (i:=0) (by decide) (rGetL ok rfl)) (rTup ok (rxCons rStr (rxCons rStr rxNil)))) (rsSeq (rsRet rNone) rsNil) rsNil) (rsSeq (rsSetT (tarTup (.cons (tarNameL ok rfl) (.cons (tarNameL ok rfl) .nil (fun _=>rfl)) (fun _=>rfl))) (rAttr lk.k_Step (i:=2) (by decide) (rGetL ok rfl))) (rsSeq (rsIf (rtAnd (.cons (rtCmp isEq (rGetL ok rfl) (rTup ok (rxCons rStr (rxCons (rGetL ok rfl) rxNil)))) (.cons (rtCmp isEq (rIdx (rGetL ok rfl) rInt) rStr) .nil))) (rsSeq (rsRet (rIf (rtCmp isEq (rAttr lk.k_Step (i:=0) (by decide) (rGetL ok rfl)) rStr) (rIdx (rGetL ok rfl) rInt) (rOp isAnd (rNeg (rIdx (rGetL ok rfl) rInt)) (rGInt lk.G ok (i:=4) rfl lk.v_MASK)))) rsNil) rsNil) (rsSeq (rsIf (rtAnd (.cons (rtCmp isEq (rAttr lk.k_Step (i:=0) (by decide) (rGetL ok rfl)) rStr) (.cons (rtCmp isEq (rGetL ok rfl) (rTup ok (rxCons rStr (rxCons (rGetL ok rfl) rxNil)))) (.cons (rtCmp isEq (rIdx (rGetL ok rfl) rInt) rStr) .nil)))) (rsSeq (rsRet (rIdx (rGetL ok rfl) rInt)) rsNil) rsNil) (rsSeq (rsRet rNone) rsNil)))))
theorem fs_sum_with (lk:Lnk c):FSpec c 1 133 2 g_sum_with:=fspec_of lk.G (fn_sum_with lk) fun L ok=>rs_sum_with lk ok
theorem rs_growth_at (lk:Lnk c) {L:Addr} (ok:EnvOK ((fn_growth_at lk).env L)):RS c 1 ((fn_growth_at lk).env L) (execs body_growth_at ((fn_growth_at lk).env L)) m_growth_at :=
 (rsSeq (rsSetL ok rfl (rIdx (rGetL ok rfl) (rGetL ok rfl))) (rsSeq (rsIf (rtOr (.cons (rtCmp isNe (rAttr lk.k_Step (i:=0) (by decide) (rGetL ok rfl)) rStr) (.cons (rtCmp isNe (rIdx (rIdx (rAttr lk.k_Step (i:=2) (by decide) (rGetL ok rfl)) rInt) rInt) rStr) .nil))) (rsSeq (rsRet (rCall lk.G ok ((fs_sum_with lk).up (by decide)) ⟨_,_,_,_,lk.look (o:=fo fd_sum_with) (by kernel_rfl)⟩ (i:=5) rfl lk.v_sum_with rfl (rxCons (rGetL ok rfl) (rxCons (rAttr lk.k_Step (i:=1) (by decide) (rGetL ok rfl)) rxNil)))) rsNil) rsNil) (rsSeq (rsSetL ok rfl (rIdx (rIdx (rAttr lk.k_Step (i:=2) (by decide) (rGetL ok rfl)) rInt) rInt)) (rsSeq (rsSetL ok rfl (rOp isSub (rGetL ok rfl) rInt)) (rsSeq (rsWhile (rtAnd (.cons (rtCmp isGe (rGetL ok rfl) rInt) (.cons (rtCmp isNe (rAttr lk.k_Step (i:=1) (by decide) (rIdx (rGetL ok rfl) (rGetL ok rfl))) (rAttr lk.k_Step (i:=1) (by decide) (rGetL ok rfl))) .nil))) (rsSeq (rsIf (rtCmp isEq (rAttr lk.k_Step (i:=1) (by decide) (rIdx (rGetL ok rfl) (rGetL ok rfl))) (rGetL ok rfl)) (rsSeq (rsRet (rCall lk.G ok ((fs_sum_with lk).up (by decide)) ⟨_,_,_,_,lk.look (o:=fo fd_sum_with) (by kernel_rfl)⟩ (i:=5) rfl lk.v_sum_with rfl (rxCons (rIdx (rGetL ok rfl) (rGetL ok rfl)) (rxCons (rAttr lk.k_Step (i:=1) (by decide) (rGetL ok rfl)) rxNil)))) rsNil) rsNil) (rsSeq (rsAug ok inpSub (.inl rfl) rInt) rsNil))) (rsSeq (rsRet rNone) rsNil))))))
theorem fs_growth_at (lk:Lnk c):FSpec c 2 140 2 g_growth_at:=fspec_of lk.G (fn_growth_at lk) fun L ok=>rs_growth_at lk ok
theorem rs_counters_of (lk:Lnk c) {L:Addr} (ok:EnvOK ((fn_counters_of lk).env L)):RS c 2 ((fn_counters_of lk).env L) (execs body_counters_of ((fn_counters_of lk).env L)) m_counters_of :=
 (rsSeq (rsSetL ok rfl (rSet0 lk.G ok (i:=7) rfl lk.n_set lk.b_set)) (rsSeq (rsSetL ok rfl (rSet0 lk.G ok (i:=7) rfl lk.n_set lk.b_set)) (rsSeq (rsFor ok (tarTup (.cons (tarNameL ok rfl) (.cons (tarNameL ok rfl) (.cons (tarNameL ok rfl) .nil (fun _=>rfl)) (fun _=>rfl)) (fun _=>rfl))) (riListT ok (rGetL ok rfl)) (rsSeq (rsIf (rtCmp isGe (rAttr lk.k_Step (i:=1) (by decide) (rGetL ok rfl)) rInt) (rsSeq (rsIf (rtCmp isIs (rCall lk.G ok ((fs_growth_at lk).up (by decide)) ⟨_,_,_,_,lk.look (o:=fo fd_growth_at) (by kernel_rfl)⟩ (i:=8) rfl lk.v_growth_at rfl (rxCons (rAttr lk.k_Block (i:=1) (by decide) (rIdx (rAttr lk.k_Func (i:=4) (by decide) (rGetL ok rfl)) (rGetL ok rfl))) (rxCons (rGetL ok rfl) rxNil))) rNone) (rsSeq (rsExpr ok (rSetAdd (rGetL ok rfl) (rAttr lk.k_Step (i:=1) (by decide) (rGetL ok rfl)))) rsNil) (rsSeq (rsExpr ok (rSetAdd (rGetL ok rfl) (rAttr lk.k_Step (i:=1) (by decide) (rGetL ok rfl)))) rsNil)) rsNil) rsNil) rsNil)) (rsSeq (rsRet (rDiff ok (rGetL ok rfl) (rGetL ok rfl))) rsNil))))
theorem fs_counters_of (lk:Lnk c):FSpec c 3 147 2 g_counters_of:=fspec_of lk.G (fn_counters_of lk) fun L ok=>rs_counters_of lk ok
theorem rs_product_of (lk:Lnk c) {L:Addr} (ok:EnvOK ((fn_product_of lk).env L)):RS c 0 ((fn_product_of lk).env L) (execs body_product_of ((fn_product_of lk).env L)) m_product_of :=
 (rsSeq (rsIf (rtCmp isNe (rAttr lk.k_Step (i:=0) (by decide) (rGetL ok rfl)) rStr) (rsSeq (rsRet rNone) rsNil) rsNil) (rsSeq (rsSetT (tarTup (.cons (tarNameL ok rfl) (.cons (tarNameL ok rfl) .nil (fun _=>rfl)) (fun _=>rfl))) (rAttr lk.k_Step (i:=2) (by decide) (rGetL ok rfl))) (rsSeq (rsIf (rtCmp isEq (rIdx (rGetL ok rfl) rInt) rStr) (rsSeq (rsSwap ok (.cons (.inl rfl) (.cons (.inl rfl) .nil)) (rTup ok (rxCons (rGetL ok rfl) (rxCons (rGetL ok rfl) rxNil)))) rsNil) rsNil) (rsSeq (rsIf (rtOr (.cons (rtCmp isNe (rIdx (rGetL ok rfl) rInt) rStr) (.cons (rtCmp isNe (rIdx (rGetL ok rfl) rInt) rStr) (.cons (rtCmp (isNotIn lk.G.sys) (rIdx (rGetL ok rfl) rInt) (rGetL ok rfl)) .nil)))) (rsSeq (rsRet rNone) rsNil) rsNil) (rsSeq (rsRet (rTup ok (rxCons (rIdx (rGetL ok rfl) rInt) (rxCons (rIdx (rGetL ok rfl) rInt) rxNil)))) rsNil)))))
theorem fs_product_of (lk:Lnk c):FSpec c 1 154 2 g_product_of:=fspec_of lk.G (fn_product_of lk) fun L ok=>rs_product_of lk ok
theorem rs_products_in (lk:Lnk c) {L:Addr} (ok:EnvOK ((fn_products_in lk).env L)):RS c 3 ((fn_products_in lk).env L) (execs body_products_in ((fn_products_in lk).env L)) m_products_in :=
 (rsSeq (rsSetComp ok ⟨sub_of rfl,(riListN ok (rGetL ok rfl)),fun cl C ok=>(tarNameL ok rfl),fun cl C ok=>(rtstOne (rtCmp isEq (rAttr lk.k_Step (i:=0) (by decide) (rIdx (rGetL ok rfl) rInt)) rStr)),fun cl C ok=>(rGetL ok rfl),fun _=>rfl⟩ (.inl rfl) rfl) (rsSeq (rsIf (rtNot (rtVal (rGetL ok rfl))) (rsSeq (rsRet (rLstF ok rxNil)) rsNil) rsNil) (rsSeq (rsSetL ok rfl (rCall lk.G ok ((fs_counters_of lk).up (by decide)) ⟨_,_,_,_,lk.look (o:=fo fd_counters_of) (by kernel_rfl)⟩ (i:=9) rfl lk.v_counters_of rfl (rxCons (rGetL ok rfl) (rxCons (rGetL ok rfl) rxNil)))) (rsSeq (rsSetL ok rfl (rDict0T ok)) (rsSeq (rsFor ok (tarTup (.cons (tarNameL ok rfl) (.cons (tarNameL ok rfl) (.cons (tarNameL ok rfl) .nil (fun _=>rfl)) (fun _=>rfl)) (fun _=>rfl))) (riListT ok (rGetL ok rfl)) (rsSeq (rsSetL ok rfl (rCall lk.G ok ((fs_product_of lk).up (by decide)) ⟨_,_,_,_,lk.look (o:=fo fd_product_of) (by kernel_rfl)⟩ (i:=10) rfl lk.v_product_of rfl (rxCons (rGetL ok rfl) (rxCons (rGetL ok rfl) rxNil)))) (rsSeq (rsIf (rtCmp isIsNot (rGetL ok rfl) rNone) (rsSeq (rsSub (rGetL ok rfl) (rGetL ok rfl) rBool) rsNil) rsNil) rsNil))) (rsSeq (rsRet (rSorted lk.G ok (i:=11) rfl lk.n_sorted lk.b_sorted (rxCons (rGetL ok rfl) rxNil))) rsNil))))))
theorem fs_products_in (lk:Lnk c):FSpec c 4 159 2 g_products_in:=fspec_of lk.G (fn_products_in lk) fun L ok=>rs_products_in lk ok
theorem rs_held_counters (lk:Lnk c) {L:Addr} (ok:EnvOK ((fn_held_counters lk).env L)):RS c 0 ((fn_held_counters lk).env L) (execs body_held_counters ((fn_held_counters lk).env L)) m_held_counters :=
 (rsSeq (rsRet (rSetOf lk.G ok (i:=1) rfl lk.n_set lk.b_set (rxCons (rComp ok ⟨sub_of rfl,(riListT ok (rSorted lk.G ok (i:=2) rfl lk.n_sorted lk.b_sorted (rxCons (rGetL ok rfl) rxNil))),fun cl C ok=>(tarTup (.cons (tarNameL ok rfl) (.cons (tarNameL ok rfl) .nil (fun _=>rfl)) (fun _=>rfl))),fun cl C ok=>rtstNil,fun cl C ok=>(rGetL ok rfl),fun _=>rfl⟩) rxNil))) rsNil)
theorem fs_held_counters (lk:Lnk c):FSpec c 1 171 1 g_held_counters:=fspec_of lk.G (fn_held_counters lk) fun L ok=>rs_held_counters lk ok
theorem rs_additions_for (lk:Lnk c) {L:Addr} (ok:EnvOK ((fn_additions_for lk).env L)):RS c 3 ((fn_additions_for lk).env L) (execs body_additions_for ((fn_additions_for lk).env L)) m_additions_for :=
 (rsSeq (rsSetL ok rfl (rLstO ok rxNil)) (rsSeq (rsFor ok (tarTup (.cons (tarNameL ok rfl) (.cons (tarNameL ok rfl) .nil (fun _=>rfl)) (fun _=>rfl))) (riListT ok (rSorted lk.G ok (i:=7) rfl lk.n_sorted lk.b_sorted (rxCons (rGetL ok rfl) rxNil))) (rsSeq (rsIf (rtCmp isEq (rGetL ok rfl) (rAttr lk.k_Step (i:=1) (by decide) (rGetL ok rfl))) (rsSeq (rsSetL ok rfl (rIdx (rGetL ok rfl) (rTup ok (rxCons (rGetL ok rfl) (rxCons (rGetL ok rfl) rxNil))))) (rsSeq (rsExpr ok (rApp (rGetL ok rfl) (rCall lk.G ok ((fs_in_place_of lk).up (by decide)) ⟨_,_,_,_,lk.look (o:=fo fd_in_place_of) (by kernel_rfl)⟩ (i:=8) rfl lk.v_in_place_of rfl (rxCons (rGetL ok rfl) (rxCons rStr (rxCons (rGetL ok rfl) (rxCons (rLstF ok (rxCons (rCall lk.G ok ((fs_reg lk).up (by decide)) ⟨_,_,_,_,lk.look (o:=fo fd_reg) (by kernel_rfl)⟩ (i:=9) rfl lk.v_reg rfl (rxCons (rGetL ok rfl) rxNil)) (rxCons (rCall lk.G ok ((fs_num lk).up (by decide)) ⟨_,_,_,_,lk.look (o:=fo fd_num) (by kernel_rfl)⟩ (i:=10) rfl lk.v_num rfl (rxCons (rOp isMul (rGetL ok rfl) (rGetL ok rfl)) rxNil)) rxNil))) (rxCons rInt rxNil)))))))) rsNil)) rsNil) rsNil)) (rsSeq (rsRet (rFrz ok (rGetL ok rfl))) rsNil)))
theorem fs_additions_for (lk:Lnk c):FSpec c 4 178 3 g_additions_for:=fspec_of lk.G (fn_additions_for lk) fun L ok=>rs_additions_for lk ok
theorem rs_grown_along (lk:Lnk c) {L:Addr} (ok:EnvOK ((fn_grown_along lk).env L)):RS c 4 ((fn_grown_along lk).env L) (execs body_grown_along ((fn_grown_along lk).env L)) m_grown_along :=
 (rsSeq (rsSetL ok rfl (rCall lk.G ok ((fs_held_counters lk).up (by decide)) ⟨_,_,_,_,lk.look (o:=fo fd_held_counters) (by kernel_rfl)⟩ (i:=10) rfl lk.v_held_counters rfl (rxCons (rGetL ok rfl) rxNil))) (rsSeq (rsFor ok (tarNameL ok rfl) (riListN ok (rSortedB lk.G ok (i:=11) rfl lk.n_sorted lk.b_sorted (rxCons (rAttr lk.k_Loop (i:=1) (by decide) (rGetL ok rfl)) rxNil))) (rsSeq (rsSetL ok rfl (rIdx (rAttr lk.k_Func (i:=4) (by decide) (rGetL ok rfl)) (rGetL ok rfl))) (rsSeq (rsSetL ok rfl (rLstO ok rxNil)) (rsSeq (rsFor ok (tarTup (.cons (tarNameL ok rfl) (.cons (tarNameL ok rfl) .nil (fun _=>rfl)) (fun _=>rfl))) (ri_enum lk.G ok (i:=12) rfl lk.n_enumerate lk.b_enumerate (rxCons (rAttr lk.k_Block (i:=1) (by decide) (rGetL ok rfl)) rxNil)) (rsSeq (rsSetL ok rfl (rCall lk.G ok ((fs_product_of lk).up (by decide)) ⟨_,_,_,_,lk.look (o:=fo fd_product_of) (by kernel_rfl)⟩ (i:=13) rfl lk.v_product_of rfl (rxCons (rGetL ok rfl) (rxCons (rGetL ok rfl) rxNil)))) (rsSeq (rsIf (rtAnd (.cons (rtCmp isIsNot (rGetL ok rfl) rNone) (.cons (rtCmp (isIn lk.G.sys) (rGetL ok rfl) (rGetL ok rfl)) .nil))) (rsSeq (rsExpr ok (rApp (rGetL ok rfl) (rCall lk.G ok ((fs_in_place_of lk).up (by decide)) ⟨_,_,_,_,lk.look (o:=fo fd_in_place_of) (by kernel_rfl)⟩ (i:=14) rfl lk.v_in_place_of rfl (rxCons (rGetL ok rfl) (rxCons rStr (rxCons (rAttr lk.k_Step (i:=1) (by decide) (rGetL ok rfl)) (rxCons (rLstF ok (rxCons (rCall lk.G ok ((fs_reg lk).up (by decide)) ⟨_,_,_,_,lk.look (o:=fo fd_reg) (by kernel_rfl)⟩ (i:=15) rfl lk.v_reg rfl (rxCons (rIdx (rGetL ok rfl) (rGetL ok rfl)) rxNil)) rxNil)) (rxCons rInt rxNil)))))))) rsNil) (rsSeq (rsExpr ok (rApp (rGetL ok rfl) (rGetL ok rfl))) rsNil)) (rsSeq (rsIf (rtCmp (isIn lk.G.sys) (rAttr lk.k_Step (i:=1) (by decide) (rGetL ok rfl)) (rGetL ok rfl)) (rsSeq (rsExpr ok (rExt (rGetL ok rfl) (rCall lk.G ok ((fs_additions_for lk).up (by decide)) ⟨_,_,_,_,lk.look (o:=fo fd_additions_for) (by kernel_rfl)⟩ (i:=16) rfl lk.v_additions_for rfl (rxCons (rGetL ok rfl) (rxCons (rCall lk.G ok ((fs_growth_at lk).up (by decide)) ⟨_,_,_,_,lk.look (o:=fo fd_growth_at) (by kernel_rfl)⟩ (i:=17) rfl lk.v_growth_at rfl (rxCons (rAttr lk.k_Block (i:=1) (by decide) (rGetL ok rfl)) (rxCons (rGetL ok rfl) rxNil))) (rxCons (rGetL ok rfl) rxNil)))))) rsNil) rsNil) rsNil)))) (rsSeq (rsAttr lk.k_Block (by decide) (rGetL ok rfl) (rFrz ok (rGetL ok rfl))) rsNil))))) rsNil))
theorem fs_grown_along (lk:Lnk c):FSpec c 5 166 3 g_grown_along:=fspec_of lk.G (fn_grown_along lk) fun L ok=>rs_grown_along lk ok
theorem rs_multiply_ahead (lk:Lnk c) {L:Addr} (ok:EnvOK ((fn_multiply_ahead lk).env L)):RS c 5 ((fn_multiply_ahead lk).env L) (execs body_multiply_ahead ((fn_multiply_ahead lk).env L)) m_multiply_ahead :=
 (rsSeq (rsSetL ok rfl (rDict0T ok)) (rsSeq (rsFor ok (tarTup (.cons (tarNameL ok rfl) (.cons (tarNameL ok rfl) .nil (fun _=>rfl)) (fun _=>rfl))) (riListT ok (rGetL ok rfl)) (rsSeq (rsSetL ok rfl (rAttr lk.k_Func (i:=5) (by decide) (rGetL ok rfl))) (rsSeq (rsAugA lk.k_Func inpAdd (by decide) (rGetL ok rfl) rInt) (rsSeq (rsSub (rGetL ok rfl) (rTup ok (rxCons (rGetL ok rfl) (rxCons (rGetL ok rfl) rxNil))) (rGetL ok rfl)) (rsSeq (rsExpr ok (rApp (rAttr lk.k_Block (i:=1) (by decide) (rGetL ok rfl)) (rFrz ok (rNew lk.G ok lk.mk_Step (fn_Step_init lk) (fun L ok=>rs_Step_init lk ok) (i:=8) rfl lk.v_Step rfl (rxCons rStr (rxCons (rGetL ok rfl) (rxCons (rLstF ok (rxCons (rCall lk.G ok ((fs_reg lk).up (by decide)) ⟨_,_,_,_,lk.look (o:=fo fd_reg) (by kernel_rfl)⟩ (i:=9) rfl lk.v_reg rfl (rxCons (rGetL ok rfl) rxNil)) (rxCons (rCall lk.G ok ((fs_num lk).up (by decide)) ⟨_,_,_,_,lk.look (o:=fo fd_num) (by kernel_rfl)⟩ (i:=10) rfl lk.v_num rfl (rxCons (rGetL ok rfl) rxNil)) rxNil))) (rxCons rInt rxNil)))))))) rsNil))))) (rsSeq (rsExpr ok (rCall lk.G ok ((fs_grown_along lk).up (by decide)) ⟨_,_,_,_,lk.look (o:=fo fd_grown_along) (by kernel_rfl)⟩ (i:=11) rfl lk.v_grown_along rfl (rxCons (rGetL ok rfl) (rxCons (rGetL ok rfl) (rxCons (rFrz ok (rGetL ok rfl)) rxNil))))) rsNil)))
theorem fs_multiply_ahead (lk:Lnk c):FSpec c 6 185 4 g_multiply_ahead:=fspec_of lk.G (fn_multiply_ahead lk) fun L ok=>rs_multiply_ahead lk ok
theorem rs_law_draw (lk:Lnk c) {L:Addr} (ok:EnvOK ((fn_law_draw lk).env L)):RS c 0 ((fn_law_draw lk).env L) (execs body_law_draw ((fn_law_draw lk).env L)) m_law_draw :=
 (rsSeq (rsSwap ok (.cons (.inl rfl) (.cons (.inl rfl) .nil)) (rTup ok (rxCons (rIdx (rGetL ok rfl) rInt) (rxCons (rIdx (rGetL ok rfl) rInt) rxNil)))) (rsSeq (rsSub (rGetL ok rfl) rInt (rOp isAdd (rGetL ok rfl) rInt)) (rsSeq (rsRet (rIf (rtCmp isLt (rGetL ok rfl) (rLen lk.G ok (i:=4) rfl lk.n_len lk.b_len (rxCons (rGetL ok rfl) rxNil))) (rOp isMod (rIdx (rGetL ok rfl) (rGetL ok rfl)) (rGetL ok rfl)) (rOp isMod (rOp isMod (rOp isAdd (rOp isMul (rGetL ok rfl) rInt) (rIdx (rGetL ok rfl) rInt)) rInt) (rGetL ok rfl)))) rsNil)))
theorem fs_law_draw (lk:Lnk c):FSpec c 1 192 2 g_law_draw:=fspec_of lk.G (fn_law_draw lk) fun L ok=>rs_law_draw lk ok
theorem rs_law_kind (lk:Lnk c) {L:Addr} (ok:EnvOK ((fn_law_kind lk).env L)):RS c 0 ((fn_law_kind lk).env L) (execs body_law_kind ((fn_law_kind lk).env L)) m_law_kind :=
 (rsSeq (rsSwap ok (.cons (.inl rfl) (.cons (.inl rfl) .nil)) (rTup ok (rxCons (rTup ok (rxCons rStr (rxCons (rGetL ok rfl) rxNil))) (rxCons (rOp isMod (rOp isAdd (rGetL ok rfl) rInt) rInt) rxNil)))) (rsSeq (rsSetL ok rfl (rTup ok (rxCons (rLstF ok (rxCons (rTup ok (rxCons rStr (rxCons (rGetL ok rfl) (rxCons (rLstF ok (rxCons (rGetL ok rfl) (rxCons (rGetL ok rfl) rxNil))) rxNil)))) rxNil)) (rxCons (rLstF ok (rxCons (rTup ok (rxCons rStr (rxCons (rGetL ok rfl) (rxCons (rLstF ok (rxCons (rGetL ok rfl) (rxCons (rGetL ok rfl) rxNil))) rxNil)))) rxNil)) (rxCons (rLstF ok (rxCons (rTup ok (rxCons rStr (rxCons (rGetL ok rfl) (rxCons (rLstF ok (rxCons (rGetL ok rfl) (rxCons (rGetL ok rfl) rxNil))) rxNil)))) rxNil)) (rxCons (rLstF ok (rxCons (rTup ok (rxCons rStr (rxCons (rGetL ok rfl) (rxCons (rLstF ok (rxCons (rGetL ok rfl) (rxCons (rGetL ok rfl) rxNil))) rxNil)))) (rxCons (rTup ok (rxCons rStr (rxCons (rGetL ok rfl) (rxCons (rLstF ok (rxCons (rTup ok (rxCons rStr (rxCons (rGetL ok rfl) rxNil))) rxNil)) rxNil)))) rxNil))) (rxCons (rLstF ok (rxCons (rTup ok (rxCons rStr (rxCons (rGetL ok rfl) (rxCons (rLstF ok (rxCons (rGetL ok rfl) (rxCons (rGetL ok rfl) rxNil))) rxNil)))) (rxCons (rTup ok (rxCons rStr (rxCons (rNeg rInt) (rxCons (rLstF ok (rxCons (rGetL ok rfl) rxNil)) rxNil)))) (rxCons (rTup ok (rxCons rStr (rxCons (rGetL ok rfl) (rxCons (rLstF ok (rxCons (rTup ok (rxCons rStr (rxCons (rGetL ok rfl) rxNil))) rxNil)) rxNil)))) rxNil)))) (rxCons (rLstF ok (rxCons (rTup ok (rxCons rStr (rxCons rInt (rxCons (rLstF ok (rxCons (rGetL ok rfl) (rxCons (rGetL ok rfl) rxNil))) rxNil)))) rxNil)) (rxCons (rLstF ok (rxCons (rTup ok (rxCons rStr (rxCons rInt (rxCons (rLstF ok (rxCons (rGetL ok rfl) (rxCons (rGetL ok rfl) rxNil))) rxNil)))) rxNil)) (rxCons (rLstF ok (rxCons (rTup ok (rxCons rStr (rxCons (rGetL ok rfl) (rxCons (rLstF ok (rxCons (rGetL ok rfl) (rxCons (rTup ok (rxCons rStr (rxCons rInt rxNil))) rxNil))) rxNil)))) rxNil)) (rxCons (rLstF ok (rxCons (rTup ok (rxCons rStr (rxCons rInt (rxCons (rLstF ok (rxCons (rGetL ok rfl) (rxCons (rGetL ok rfl) rxNil))) rxNil)))) rxNil)) (rxCons (rLstF ok (rxCons (rTup ok (rxCons rStr (rxCons (rGetL ok rfl) (rxCons (rLstF ok (rxCons (rGetL ok rfl) (rxCons (rGetL ok rfl) rxNil))) rxNil)))) rxNil)) (rxCons (rLstF ok (rxCons (rTup ok (rxCons rStr (rxCons (rGetL ok rfl) (rxCons (rLstF ok (rxCons (rTup ok (rxCons rStr (rxCons (rGetL ok rfl) rxNil))) rxNil)) rxNil)))) rxNil)) (rxCons (rLstF ok (rxCons (rTup ok (rxCons rStr (rxCons (rGetL ok rfl) (rxCons (rLstF ok (rxCons (rGetL ok rfl) (rxCons (rGetL ok rfl) rxNil))) rxNil)))) (rxCons (rTup ok (rxCons rStr (rxCons (rGetL ok rfl) (rxCons (rLstF ok (rxCons (rGetL ok rfl) (rxCons (rGetL ok rfl) rxNil))) rxNil)))) (rxCons (rTup ok (rxCons rStr (rxCons (rGetL ok rfl) (rxCons (rLstF ok (rxCons (rTup ok (rxCons rStr (rxCons (rGetL ok rfl) rxNil))) rxNil)) rxNil)))) rxNil)))) (rxCons (rLstF ok (rxCons (rTup ok (rxCons rStr (rxCons (rGetL ok rfl) (rxCons (rLstF ok (rxCons (rGetL ok rfl) (rxCons (rGetL ok rfl) rxNil))) rxNil)))) rxNil)) (rxCons (rLstF ok (rxCons (rTup ok (rxCons rStr (rxCons (rGetL ok rfl) (rxCons (rLstF ok (rxCons (rGetL ok rfl) (rxCons (rGetL ok rfl) rxNil))) rxNil)))) rxNil)) rxNil)))))))))))))))) (rsSeq (rsRet (rIdx (rGetL ok rfl) (rGetL ok rfl))) rsNil)))
theorem fs_law_kind (lk:Lnk c):FSpec c 1 199 3 g_law_kind:=fspec_of lk.G (fn_law_kind lk) fun L ok=>rs_law_kind lk ok
theorem rs_law_parts (lk:Lnk c) {L:Addr} (ok:EnvOK ((fn_law_parts lk).env L)):RS c 1 ((fn_law_parts lk).env L) (execs body_law_parts ((fn_law_parts lk).env L)) m_law_parts :=
 (rsSeq (rsSetL ok rfl (rTup ok (rxCons rStr (rxCons (rCall lk.G ok ((fs_law_draw lk).up (by decide)) ⟨_,_,_,_,lk.look (o:=fo fd_law_draw) (by kernel_rfl)⟩ (i:=10) rfl lk.v_law_draw rfl (rxCons (rGetL ok rfl) (rxCons (rGInt lk.G ok (i:=11) rfl lk.v_law_ALL) rxNil))) rxNil)))) (rsSeq (rsSetL ok rfl (rIf (rtCmp isEq (rCall lk.G ok ((fs_law_draw lk).up (by decide)) ⟨_,_,_,_,lk.look (o:=fo fd_law_draw) (by kernel_rfl)⟩ (i:=10) rfl lk.v_law_draw rfl (rxCons (rGetL ok rfl) (rxCons rInt rxNil))) rInt) (rGetL ok rfl) (rTup ok (rxCons rStr (rxCons (rCall lk.G ok ((fs_law_draw lk).up (by decide)) ⟨_,_,_,_,lk.look (o:=fo fd_law_draw) (by kernel_rfl)⟩ (i:=10) rfl lk.v_law_draw rfl (rxCons (rGetL ok rfl) (rxCons (rGInt lk.G ok (i:=11) rfl lk.v_law_ALL) rxNil))) rxNil))))) (rsSeq (rsSetComp ok ⟨sub_of rfl,(ri_range lk.G ok (i:=12) rfl lk.n_range lk.b_range (rxCons (rGetL ok rfl) rxNil)),fun cl C ok=>(tarNameL ok rfl),fun cl C ok=>rtstNil,fun cl C ok=>(rLstO ok rxNil),fun _=>rfl⟩ (.inl rfl) rfl) (rsSeq (rsExpr ok (rApp (rIdx (rGetL ok rfl) rInt) (rTup ok (rxCons rStr (rxCons rInt (rxCons (rLstF ok (rxCons (rTup ok (rxCons rStr (rxCons rInt rxNil))) (rxCons (rGetL ok rfl) rxNil))) rxNil)))))) (rsSeq (rsFor ok (tarNameL ok rfl) (ri_range lk.G ok (i:=12) rfl lk.n_range lk.b_range (rxCons (rOp isAdd rInt (rCall lk.G ok ((fs_law_draw lk).up (by decide)) ⟨_,_,_,_,lk.look (o:=fo fd_law_draw) (by kernel_rfl)⟩ (i:=10) rfl lk.v_law_draw rfl (rxCons (rGetL ok rfl) (rxCons rInt rxNil)))) rxNil)) (rsSeq (rsSwap ok (.cons (.inl rfl) (.cons (.inl rfl) .nil)) (rTup ok (rxCons (rCall lk.G ok ((fs_law_draw lk).up (by decide)) ⟨_,_,_,_,lk.look (o:=fo fd_law_draw) (by kernel_rfl)⟩ (i:=10) rfl lk.v_law_draw rfl (rxCons (rGetL ok rfl) (rxCons rInt rxNil))) (rxCons (rCall lk.G ok ((fs_law_draw lk).up (by decide)) ⟨_,_,_,_,lk.look (o:=fo fd_law_draw) (by kernel_rfl)⟩ (i:=10) rfl lk.v_law_draw rfl (rxCons (rGetL ok rfl) (rxCons rInt rxNil))) rxNil)))) (rsSeq (rsExpr ok (rExt (rIdx (rGetL ok rfl) (rOp isMod (rGetL ok rfl) (rGetL ok rfl))) (rCall lk.G ok ((fs_law_kind lk).up (by decide)) ⟨_,_,_,_,lk.look (o:=fo fd_law_kind) (by kernel_rfl)⟩ (i:=13) rfl lk.v_law_kind rfl (rxCons (rGetL ok rfl) (rxCons (rGetL ok rfl) (rxCons (rTup ok (rxCons rStr (rxCons (rCall lk.G ok ((fs_law_draw lk).up (by decide)) ⟨_,_,_,_,lk.look (o:=fo fd_law_draw) (by kernel_rfl)⟩ (i:=10) rfl lk.v_law_draw rfl (rxCons (rGetL ok rfl) (rxCons (rGInt lk.G ok (i:=11) rfl lk.v_law_ALL) rxNil))) rxNil))) rxNil)))))) rsNil))) (rsSeq (rsExpr ok (rApp (rIdx (rGetL ok rfl) (rNeg rInt)) (rTup ok (rxCons rStr (rxCons rInt (rxCons (rLstF ok (rxCons (rGetL ok rfl) (rxCons (rTup ok (rxCons rStr (rxCons rInt rxNil))) rxNil))) rxNil)))))) (rsSeq (rsSetL ok rfl (rCall lk.G ok ((fs_law_draw lk).up (by decide)) ⟨_,_,_,_,lk.look (o:=fo fd_law_draw) (by kernel_rfl)⟩ (i:=10) rfl lk.v_law_draw rfl (rxCons (rGetL ok rfl) (rxCons rInt rxNil)))) (rsSeq (rsExpr ok (rExt (rIdx (rGetL ok rfl) (rNeg rInt)) (rCall lk.G ok ((fs_law_kind lk).up (by decide)) ⟨_,_,_,_,lk.look (o:=fo fd_law_kind) (by kernel_rfl)⟩ (i:=13) rfl lk.v_law_kind rfl (rxCons (rGetL ok rfl) (rxCons rInt (rxCons (rTup ok (rxCons rStr (rxCons (rCall lk.G ok ((fs_law_draw lk).up (by decide)) ⟨_,_,_,_,lk.look (o:=fo fd_law_draw) (by kernel_rfl)⟩ (i:=10) rfl lk.v_law_draw rfl (rxCons (rGetL ok rfl) (rxCons (rGInt lk.G ok (i:=11) rfl lk.v_law_ALL) rxNil))) rxNil))) rxNil)))))) (rsSeq (rsSetL ok rfl (rLstF ok (rxCons (rTup ok (rxCons rStr (rxCons rInt (rxCons (rLstF ok (rxCons (rTup ok (rxCons rStr (rxCons rInt rxNil))) (rxCons (rGetL ok rfl) rxNil))) rxNil)))) rxNil))) (rsSeq (rsSetL ok rfl (rLstF ok (rxCons (rTup ok (rxCons rStr (rxCons rInt (rxCons (rLstF ok (rxCons (rTup ok (rxCons rStr (rxCons rInt rxNil))) (rxCons (rGetL ok rfl) rxNil))) rxNil)))) (rxCons (rTup ok (rxCons rStr (rxCons rInt (rxCons (rLstF ok (rxCons (rGetL ok rfl) rxNil)) rxNil)))) rxNil)))) (rsSeq (rsRet (rFrzL ok (rAddL ok (rAddL ok (rLstF ok (rxCons (rGetL ok rfl) rxNil)) (rGetL ok rfl)) (rLstF ok (rxCons (rGetL ok rfl) rxNil))))) rsNil)))))))))))
theorem fs_law_parts (lk:Lnk c):FSpec c 2 204 2 g_law_parts:=fspec_of lk.G (fn_law_parts lk) fun L ok=>rs_law_parts lk ok
theorem rs_law_made (lk:Lnk c) {L:Addr} (ok:EnvOK ((fn_law_made lk).env L)):RS c 2 ((fn_law_made lk).env L) (execs body_law_made ((fn_law_made lk).env L)) m_law_made :=
 (rsSeq (rsSetL ok rfl (rNew lk.G ok lk.mk_Func (fn_Func_init lk) (fun L ok=>rs_Func_init lk ok) (i:=5) rfl lk.v_Func rfl (rxCons rStr rxNil))) (rsSeq (rsAttr lk.k_Func (by decide) (rGetL ok rfl) rInt) (rsSeq (rsFor ok (tarTup (.cons (tarNameL ok rfl) (.cons (tarNameL ok rfl) .nil (fun _=>rfl)) (fun _=>rfl))) (ri_enum lk.G ok (i:=6) rfl lk.n_enumerate lk.b_enumerate (rxCons (rGetL ok rfl) rxNil)) (rsSeq (rsSetL ok rfl (rNew lk.G ok lk.mk_Block (fn_Block_init lk) (fun L ok=>rs_Block_init lk ok) (i:=7) rfl lk.v_Block rfl (rxCons (rGetL ok rfl) rxNil))) (rsSeq (rsAttr lk.k_Block (by decide) (rGetL ok rfl) (rComp ok ⟨sub_of rfl,(riListT ok (rGetL ok rfl)),fun cl C ok=>(tarTup (.cons (tarNameL ok rfl) (.cons (tarNameL ok rfl) (.cons (tarNameL ok rfl) .nil (fun _=>rfl)) (fun _=>rfl)) (fun _=>rfl))),fun cl C ok=>rtstNil,fun cl C ok=>(rFrz ok (rNew lk.G ok lk.mk_Step (fn_Step_init lk) (fun L ok=>rs_Step_init lk ok) (i:=4) rfl lk.v_Step rfl (rxCons (rGetL ok rfl) (rxCons (rGetL ok rfl) (rxCons (rListC lk.G ok (i:=5) rfl lk.n_list lk.b_list (rxCons (rGetL ok rfl) rxNil)) (rxCons (rIf (rtCmp isEq (rGetL ok rfl) rStr) rStr rInt) rxNil)))))),fun _=>rfl⟩)) (rsSeq (rsExpr ok (rApp (rAttr lk.k_Func (i:=4) (by decide) (rGetL ok rfl)) (rGetL ok rfl))) rsNil)))) (rsSeq (rsRet (rGetL ok rfl)) rsNil))))
theorem fs_law_made (lk:Lnk c):FSpec c 3 209 1 g_law_made:=fspec_of lk.G (fn_law_made lk) fun L ok=>rs_law_made lk ok
theorem rs_law_sum (lk:Lnk c) {L:Addr} (ok:EnvOK ((fn_law_sum lk).env L)):RS c 0 ((fn_law_sum lk).env L) (execs body_law_sum ((fn_law_sum lk).env L)) m_law_sum :=
 (rsSeq (rsIf (rtAnd (.cons (rtCmp isEq (rGetL ok rfl) rStr) (.cons (rtCmp isEq (rIdx (rIdx (rGetL ok rfl) rInt) rInt) rStr) (.cons (rtCmp isEq (rIdx (rIdx (rGetL ok rfl) rInt) rInt) rStr) .nil)))) (rsSeq (rsRet (rTup ok (rxCons (rIdx (rIdx (rGetL ok rfl) rInt) rInt) (rxCons (rIdx (rIdx (rGetL ok rfl) rInt) rInt) rxNil)))) rsNil) rsNil) (rsSeq (rsIf (rtOr (.cons (rtCmp (isNotIn lk.G.sys) (rGetL ok rfl) (rTup ok (rxCons rStr (rxCons rStr rxNil)))) (.cons (rtCmp isNe (rIdx (rIdx (rGetL ok rfl) rInt) rInt) rStr) (.cons (rtCmp isNe (rIdx (rIdx (rGetL ok rfl) rInt) rInt) rStr) .nil)))) (rsSeq (rsRet (rTup ok (rxCons (rNeg rInt) (rxCons rInt rxNil)))) rsNil) rsNil) (rsSeq (rsRet (rTup ok (rxCons (rIdx (rIdx (rGetL ok rfl) rInt) rInt) (rxCons (rIf (rtCmp isEq (rGetL ok rfl) rStr) (rIdx (rIdx (rGetL ok rfl) rInt) rInt) (rOp isMod (rOp isSub rInt (rIdx (rIdx (rGetL ok rfl) rInt) rInt)) (rGInt lk.G ok (i:=2) rfl lk.v_law_ALL))) rxNil)))) rsNil)))
theorem fs_law_sum (lk:Lnk c):FSpec c 1 216 2 g_law_sum:=fspec_of lk.G (fn_law_sum lk) fun L ok=>rs_law_sum lk ok
theorem rs_law_growths (lk:Lnk c) {L:Addr} (ok:EnvOK ((fn_law_growths lk).env L)):RS c 1 ((fn_law_growths lk).env L) (execs body_law_growths ((fn_law_growths lk).env L)) m_law_growths :=
 (rsSeq (rsSwap ok (.cons (.inl rfl) (.cons (.inl rfl) (.cons (.inl rfl) .nil))) (rTup ok (rxCons (rDict0I ok) (rxCons (rDict0I ok) (rxCons (rLstO ok rxNil) rxNil))))) (rsSeq (rsFor ok (tarTup (.cons (tarNameL ok rfl) (.cons (tarNameL ok rfl) (.cons (tarNameL ok rfl) .nil (fun _=>rfl)) (fun _=>rfl)) (fun _=>rfl))) (riListT ok (rGetL ok rfl)) (rsSeq (rsSetT (tarTup (.cons (tarNameL ok rfl) (.cons (tarNameL ok rfl) .nil (fun _=>rfl)) (fun _=>rfl))) (rCall lk.G ok ((fs_law_sum lk).up (by decide)) ⟨_,_,_,_,lk.look (o:=fo fd_law_sum) (by kernel_rfl)⟩ (i:=11) rfl lk.v_law_sum rfl (rxCons (rGetL ok rfl) (rxCons (rGetL ok rfl) rxNil)))) (rsSeq (rsSetL ok rfl (rTup ok (rxCons (rGetL ok rfl) (rxCons (rGet2 lk.G (rGetL ok rfl) (rGetL ok rfl) rInt) (rxCons (rGetL ok rfl) rxNil))))) (rsSeq (rsIf (rtCmp isEq (rGetL ok rfl) rStr) (rsSeq (rsSetL ok rfl (rGet2 lk.G (rGetL ok rfl) (rIdx (rIdx (rGetL ok rfl) rInt) rInt) (rTup ok (rxCons (rNeg rInt) (rxCons rInt (rxCons rInt rxNil)))))) rsNil) rsNil) (rsSeq (rsSetL ok rfl (rAnd (.cons (rCmp isGe (rGetL ok rfl) rInt) (.cons (rCmp isEq (rIdx (rGetL ok rfl) rInt) (rGetL ok rfl)) (.cons (rCmp isEq (rIdx (rGetL ok rfl) rInt) (rGet2 lk.G (rGetL ok rfl) (rGetL ok rfl) rInt)) .nil))))) (rsSeq (rsExpr ok (rApp (rGetL ok rfl) (rIf (rtVal (rGetL ok rfl)) (rIdx (rGetL ok rfl) rInt) rNone))) (rsSeq (rsSub (rGetL ok rfl) (rGetL ok rfl) (rIf (rtCmp isNe (rGetL ok rfl) rStr) (rGetL ok rfl) (rTup ok (rxCons (rNeg rInt) (rxCons rInt (rxCons rInt rxNil)))))) (rsSeq (rsSub (rGetL ok rfl) (rGetL ok rfl) (rOp isAdd (rGet2 lk.G (rGetL ok rfl) (rGetL ok rfl) rInt) rInt)) rsNil)))))))) (rsSeq (rsRet (rFrz ok (rGetL ok rfl))) rsNil)))
theorem fs_law_growths (lk:Lnk c):FSpec c 2 223 1 g_law_growths:=fspec_of lk.G (fn_law_growths lk) fun L ok=>rs_law_growths lk ok
theorem rs_law_pair (lk:Lnk c) {L:Addr} (ok:EnvOK ((fn_law_pair lk).env L)):RS c 0 ((fn_law_pair lk).env L) (execs body_law_pair ((fn_law_pair lk).env L)) m_law_pair :=
 (rsSeq (rsSetT (tarTup (.cons (tarNameL ok rfl) (.cons (tarNameL ok rfl) (.cons (tarNameL ok rfl) .nil (fun _=>rfl)) (fun _=>rfl)) (fun _=>rfl))) (rGetL ok rfl)) (rsSeq (rsIf (rtOr (.cons (rtCmp isNe (rGetL ok rfl) rStr) (.cons (rtCmp isEq (rIdx (rIdx (rGetL ok rfl) rInt) rInt) (rIdx (rIdx (rGetL ok rfl) rInt) rInt)) .nil))) (rsSeq (rsRet rNone) rsNil) rsNil) (rsSeq (rsRet (rTup ok (rxCons (rIdx (rMax lk.G ok (i:=4) rfl lk.n_max lk.b_max (rxCons (rGetL ok rfl) rxNil)) rInt) (rxCons (rIdx (rMin lk.G ok (i:=5) rfl lk.n_min lk.b_min (rxCons (rGetL ok rfl) rxNil)) rInt) rxNil)))) rsNil)))
theorem fs_law_pair (lk:Lnk c):FSpec c 1 230 1 g_law_pair:=fspec_of lk.G (fn_law_pair lk) fun L ok=>rs_law_pair lk ok
theorem rs_law_pairs (lk:Lnk c) {L:Addr} (ok:EnvOK ((fn_law_pairs lk).env L)):RS c 2 ((fn_law_pairs lk).env L) (execs body_law_pairs ((fn_law_pairs lk).env L)) m_law_pairs :=
 (rsSeq (rsSwap ok (.cons (.inl rfl) (.cons (.inl rfl) (.cons (.inl rfl) .nil))) (rTup ok (rxCons (rDict0I ok) (rxCons (rDict0I ok) (rxCons (rLstO ok rxNil) rxNil))))) (rsSeq (rsFor ok (tarNameL ok rfl) (riListN ok (rGetL ok rfl)) (rsSeq (rsFor ok (tarTup (.cons (tarNameL ok rfl) (.cons (tarNameL ok rfl) .nil (fun _=>rfl)) (fun _=>rfl))) (ri_zip lk.G ok (i:=8) rfl lk.n_zip lk.b_zip (rxCons (rGetL ok rfl) (rxCons (rCall lk.G ok ((fs_law_growths lk).up (by decide)) ⟨_,_,_,_,lk.look (o:=fo fd_law_growths) (by kernel_rfl)⟩ (i:=9) rfl lk.v_law_growths rfl (rxCons (rGetL ok rfl) rxNil)) rxNil))) (rsSeq (rsIf (rtCmp isIs (rGetL ok rfl) rNone) (rsSeq (rsSub (rGetL ok rfl) (rIdx (rGetL ok rfl) rInt) rBool) rsNil) (rsSeq (rsSub (rGetL ok rfl) (rIdx (rGetL ok rfl) rInt) rBool) rsNil)) rsNil)) rsNil)) (rsSeq (rsFor ok (tarNameL ok rfl) (riListN ok (rGetL ok rfl)) (rsSeq (rsFor ok (tarNameL ok rfl) (riListN ok (rGetL ok rfl)) (rsSeq (rsSetL ok rfl (rCall lk.G ok ((fs_law_pair lk).up (by decide)) ⟨_,_,_,_,lk.look (o:=fo fd_law_pair) (by kernel_rfl)⟩ (i:=10) rfl lk.v_law_pair rfl (rxCons (rGetL ok rfl) rxNil))) (rsSeq (rsIf (rtAnd (.cons (rtCmp isIsNot (rGetL ok rfl) rNone) (.cons (rtCmp (isIn lk.G.sys) (rIdx (rGetL ok rfl) rInt) (rGetL ok rfl)) (.cons (rtCmp (isNotIn lk.G.sys) (rIdx (rGetL ok rfl) rInt) (rGetL ok rfl)) (.cons (rtCmp (isNotIn lk.G.sys) (rGetL ok rfl) (rGetL ok rfl)) .nil))))) (rsSeq (rsExpr ok (rApp (rGetL ok rfl) (rGetL ok rfl))) rsNil) rsNil) rsNil))) rsNil)) (rsSeq (rsRet (rSorted lk.G ok (i:=11) rfl lk.n_sorted lk.b_sorted (rxCons (rGetL ok rfl) rxNil))) rsNil))))
theorem fs_law_pairs (lk:Lnk c):FSpec c 3 237 1 g_law_pairs:=fspec_of lk.G (fn_law_pairs lk) fun L ok=>rs_law_pairs lk ok
theorem rs_law_do (lk:Lnk c) {L:Addr} (ok:EnvOK ((fn_law_do lk).env L)):RS c 0 ((fn_law_do lk).env L) (execs body_law_do ((fn_law_do lk).env L)) m_law_do :=
 (rsSeq (rsSetT (tarTup (.cons (tarNameL ok rfl) (.cons (tarNameL ok rfl) (.cons (tarNameL ok rfl) .nil (fun _=>rfl)) (fun _=>rfl)) (fun _=>rfl))) (rGetL ok rfl)) (rsSeq (rsSetComp ok ⟨sub_of rfl,(riListT ok (rGetL ok rfl)),fun cl C ok=>(tarTup (.cons (tarNameL ok rfl) (.cons (tarNameL ok rfl) .nil (fun _=>rfl)) (fun _=>rfl))),fun cl C ok=>rtstNil,fun cl C ok=>(rIf (rtCmp isEq (rGetL ok rfl) rStr) (rIdx (rGetC ok rfl) (rGetL ok rfl)) (rGetL ok rfl)),fun _=>rfl⟩ (.inl rfl) rfl) (rsSeq (rsSetL ok rfl (rIdx (rGetL ok rfl) rInt)) (rsSeq (rsIf (rtCmp isEq (rGetL ok rfl) rStr) (rsSeq (rsSetL ok rfl (rOp isAdd (rIdx (rGetL ok rfl) rInt) (rIdx (rGetL ok rfl) rInt))) rsNil) (rsSeq (rsIf (rtCmp isEq (rGetL ok rfl) rStr) (rsSeq (rsSetL ok rfl (rOp isSub (rIdx (rGetL ok rfl) rInt) (rIdx (rGetL ok rfl) rInt))) rsNil) (rsSeq (rsIf (rtCmp isEq (rGetL ok rfl) rStr) (rsSeq (rsSetL ok rfl (rOp isMul (rIdx (rGetL ok rfl) rInt) (rIdx (rGetL ok rfl) rInt))) rsNil) rsNil) rsNil)) rsNil)) (rsSeq (rsIf (rtCmp isGe (rGetL ok rfl) rInt) (rsSeq (rsSub (rGetC ok rfl) (rGetL ok rfl) (rOp isMod (rGetL ok rfl) (rGInt lk.G ok (i:=7) rfl lk.v_law_ALL))) rsNil) rsNil) rsNil)))))
theorem fs_law_do (lk:Lnk c):FSpec c 1 242 2 g_law_do:=fspec_of lk.G (fn_law_do lk) fun L ok=>rs_law_do lk ok
theorem rs_law_due (lk:Lnk c) {L:Addr} (ok:EnvOK ((fn_law_due lk).env L)):RS c 0 ((fn_law_due lk).env L) (execs body_law_due ((fn_law_due lk).env L)) m_law_due :=
 (rsSeq (rsRet (rAddL ok (rGetC ok rfl) (rComp ok ⟨sub_of rfl,(riListT ok (rGetL ok rfl)),fun cl C ok=>(tarTup (.cons (tarNameL ok rfl) (.cons (tarNameL ok rfl) .nil (fun _=>rfl)) (fun _=>rfl))),fun cl C ok=>rtstNil,fun cl C ok=>(rOp isMod (rOp isMul (rIdx (rGetC ok rfl) (rGetL ok rfl)) (rGetL ok rfl)) (rGInt lk.G ok (i:=3) rfl lk.v_law_ALL)),fun _=>rfl⟩))) rsNil)
theorem fs_law_due (lk:Lnk c):FSpec c 1 247 2 g_law_due:=fspec_of lk.G (fn_law_due lk) fun L ok=>rs_law_due lk ok
theorem rs_law_is_kept (lk:Lnk c) {L:Addr} (ok:EnvOK ((fn_law_is_kept lk).env L)):RS c 1 ((fn_law_is_kept lk).env L) (execs body_law_is_kept ((fn_law_is_kept lk).env L)) m_law_is_kept :=
 (rsSeq (rsSetL ok rfl (rAddL ok (rGetL ok rfl) (rComp ok ⟨sub_of rfl,(riListN ok (rGetC ok rfl)),fun cl C ok=>(tarNameL ok rfl),fun cl C ok=>rtstNil,fun cl C ok=>rInt,fun _=>rfl⟩))) (rsSeq (rsFor ok (tarNameL ok rfl) (riListN ok (rIdx (rGetL ok rfl) rInt)) (rsSeq (rsExpr ok (rCall lk.G ok ((fs_law_do lk).up (by decide)) ⟨_,_,_,_,lk.look (o:=fo fd_law_do) (by kernel_rfl)⟩ (i:=10) rfl lk.v_law_do rfl (rxCons (rGetL ok rfl) (rxCons (rGetL ok rfl) rxNil)))) rsNil)) (rsSeq (rsFor ok (tarNameL ok rfl) (riListN ok (rIdx (rGetL ok rfl) rInt)) (rsSeq (rsExpr ok (rCall lk.G ok ((fs_law_do lk).up (by decide)) ⟨_,_,_,_,lk.look (o:=fo fd_law_do) (by kernel_rfl)⟩ (i:=10) rfl lk.v_law_do rfl (rxCons (rGetL ok rfl) (rxCons (rGetL ok rfl) rxNil)))) rsNil)) (rsSeq (rsIf (rtOr (.cons (rtCmp isNe (rSlice ok (rIdx (rGetL ok rfl) rInt) .none (.some (rLen lk.G ok (i:=11) rfl lk.n_len lk.b_len (rxCons (rIdx (rGetL ok rfl) rInt) rxNil)))) (rIdx (rGetL ok rfl) rInt)) (.cons (rtCmp isNe (rGetL ok rfl) (rCall lk.G ok ((fs_law_due lk).up (by decide)) ⟨_,_,_,_,lk.look (o:=fo fd_law_due) (by kernel_rfl)⟩ (i:=12) rfl lk.v_law_due rfl (rxCons (rGetL ok rfl) (rxCons (rGetC ok rfl) rxNil)))) .nil))) (rsSeq (rsRet rBool) rsNil) rsNil) (rsSeq (rsFor ok (tarNameL ok rfl) (riListN ok (rGetL ok rfl)) (rsSeq (rsSetL ok rfl rInt) (rsSeq (rsFor ok (tarNameL ok rfl) (riListN ok (rIdx (rGetL ok rfl) (rGetL ok rfl))) (rsSeq (rsExpr ok (rCall lk.G ok ((fs_law_do lk).up (by decide)) ⟨_,_,_,_,lk.look (o:=fo fd_law_do) (by kernel_rfl)⟩ (i:=10) rfl lk.v_law_do rfl (rxCons (rGetL ok rfl) (rxCons (rGetL ok rfl) rxNil)))) (rsSeq (rsExpr ok (rCall lk.G ok ((fs_law_do lk).up (by decide)) ⟨_,_,_,_,lk.look (o:=fo fd_law_do) (by kernel_rfl)⟩ (i:=10) rfl lk.v_law_do rfl (rxCons (rGetL ok rfl) (rxCons (rIdx (rIdx (rGetL ok rfl) (rGetL ok rfl)) (rGetL ok rfl)) rxNil)))) (rsSeq (rsSetL ok rfl (rOp isAdd (rGetL ok rfl) rInt)) (rsSeq (rsWhile (rtAnd (.cons (rtCmp isLt (rGetL ok rfl) (rLen lk.G ok (i:=11) rfl lk.n_len lk.b_len (rxCons (rIdx (rGetL ok rfl) (rGetL ok rfl)) rxNil))) (.cons (rtCmp isGt (rIdx (rIdx (rIdx (rGetL ok rfl) (rGetL ok rfl)) (rGetL ok rfl)) rInt) rInt) .nil))) (rsSeq (rsExpr ok (rCall lk.G ok ((fs_law_do lk).up (by decide)) ⟨_,_,_,_,lk.look (o:=fo fd_law_do) (by kernel_rfl)⟩ (i:=10) rfl lk.v_law_do rfl (rxCons (rGetL ok rfl) (rxCons (rIdx (rIdx (rGetL ok rfl) (rGetL ok rfl)) (rGetL ok rfl)) rxNil)))) (rsSeq (rsSetL ok rfl (rOp isAdd (rGetL ok rfl) rInt)) rsNil))) (rsSeq (rsIf (rtCmp isNe (rGetL ok rfl) (rCall lk.G ok ((fs_law_due lk).up (by decide)) ⟨_,_,_,_,lk.look (o:=fo fd_law_due) (by kernel_rfl)⟩ (i:=12) rfl lk.v_law_due rfl (rxCons (rGetL ok rfl) (rxCons (rGetC ok rfl) rxNil)))) (rsSeq (rsRet rBool) rsNil) rsNil) rsNil)))))) (rsSeq (rsIf (rtCmp isNe (rGetL ok rfl) (rLen lk.G ok (i:=11) rfl lk.n_len lk.b_len (rxCons (rIdx (rGetL ok rfl) (rGetL ok rfl)) rxNil))) (rsSeq (rsRet rBool) rsNil) rsNil) rsNil)))) (rsSeq (rsSetComp2 ok ⟨sub_of rfl,(riListN ok (rSlice ok (rGetL ok rfl) (.some rInt) (.some (rNeg rInt)))),fun _ _ _=>rfl,fun cl C ok=>(tarNameL ok rfl),fun cl C ok=>(riListN ok (rGetL ok rfl)),fun cl C ok=>(tarNameL ok rfl),fun cl C ok=>(rtstOne (rtCmp (isIn lk.G.sys) (rCall lk.G ok ((fs_law_pair lk).up (by decide)) ⟨_,_,_,_,lk.look (o:=fo fd_law_pair) (by kernel_rfl)⟩ (i:=3) rfl lk.v_law_pair rfl (rxCons (rGetL ok rfl) rxNil)) (rGetC ok rfl))),fun cl C ok=>(rGetL ok rfl),fun _=>rfl⟩ (.inl rfl) rfl) (rsSeq (rsRet (rAnd (.cons (rCmp isEq (rGetL ok rfl) (rLstF ok rxNil)) (.cons (rCmp isEq (rIdx (rGetL ok rfl) (rNeg rInt)) (rIdx (rGetL ok rfl) (rNeg rInt))) .nil)))) rsNil)))))))
theorem fs_law_is_kept (lk:Lnk c):FSpec c 2 252 5 g_law_is_kept:=fspec_of lk.G (fn_law_is_kept lk) fun L ok=>rs_law_is_kept lk ok
theorem rs_law (lk:Lnk c) {L:Addr} (ok:EnvOK ((fn_law lk).env L)):RS c 6 ((fn_law lk).env L) (execs body_law ((fn_law lk).env L)) m_law :=
 (rsSeq (rsSetComp ok ⟨sub_of rfl,(riListN ok (rGetL ok rfl)),fun cl C ok=>(tarNameL ok rfl),fun cl C ok=>rtstNil,fun cl C ok=>(rOp isMod (rIntC lk.G ok (i:=2) rfl lk.n_int lk.b_int (rxCons (rGetL ok rfl) rxNil)) (rGInt lk.G ok (i:=3) rfl lk.v_law_ALL)),fun _=>rfl⟩ (.inl rfl) rfl) (rsSeq (rsSet ok (.inr ⟨rfl,by intro e; cases e⟩) (rLstO ok (rxCons (rGetL ok rfl) (rxCons rInt (rxCons (rOp isMod (rSum lk.G ok (i:=14) rfl lk.n_sum lk.b_sum (rxCons (rGetL ok rfl) rxNil)) rInt) rxNil))))) (rsSeq (rsSet ok (.inr ⟨rfl,by intro e; cases e⟩) (rOp isAdd rInt (rCall lk.G ok ((fs_law_draw lk).up (by decide)) ⟨_,_,_,_,lk.look (o:=fo fd_law_draw) (by kernel_rfl)⟩ (i:=15) rfl lk.v_law_draw rfl (rxCons (rGetC ok rfl) (rxCons rInt rxNil))))) (rsSeq (rsSetL ok rfl (rCall lk.G ok ((fs_law_parts lk).up (by decide)) ⟨_,_,_,_,lk.look (o:=fo fd_law_parts) (by kernel_rfl)⟩ (i:=16) rfl lk.v_law_parts rfl (rxCons (rGetC ok rfl) (rxCons (rGetC ok rfl) rxNil)))) (rsSeq (rsSwap ok (.cons (.inl rfl) (.cons (.inl rfl) .nil)) (rTup ok (rxCons (rCall lk.G ok ((fs_law_made lk).up (by decide)) ⟨_,_,_,_,lk.look (o:=fo fd_law_made) (by kernel_rfl)⟩ (i:=17) rfl lk.v_law_made rfl (rxCons (rGetL ok rfl) rxNil)) (rxCons (rFrz ok (rNew lk.G ok lk.mk_Loop (fn_Loop_init lk) (fun L ok=>rs_Loop_init lk ok) (i:=18) rfl lk.v_Loop rfl (rxCons rInt (rxCons (rSetR lk.G ok (i:=19) rfl lk.n_set lk.b_set (j:=20) rfl lk.n_range lk.b_range (rxCons rInt (rxCons (rOp isAdd (rGetC ok rfl) rInt) rxNil))) (rxCons (rLstF ok (rxCons (rGetC ok rfl) rxNil)) rxNil))))) rxNil)))) (rsSeq (rsFor ok (tarNameL ok rfl) (ri_range lk.G ok (i:=20) rfl lk.n_range lk.b_range (rxCons rInt (rxCons (rOp isAdd (rGetC ok rfl) rInt) rxNil))) (rsSeq (rsSet ok (.inr ⟨rfl,by intro e; cases e⟩) (rAttr lk.k_Block (i:=1) (by decide) (rIdx (rAttr lk.k_Func (i:=4) (by decide) (rGetL ok rfl)) (rGetL ok rfl)))) (rsSeq (rsIf (rtCmp isNe (rComp ok ⟨sub_of rfl,(ri_range lk.G ok (i:=20) rfl lk.n_range lk.b_range (rxCons (rLen lk.G ok (i:=21) rfl lk.n_len lk.b_len (rxCons (rGetC ok rfl) rxNil)) rxNil)),fun cl C ok=>(tarNameL ok rfl),fun cl C ok=>rtstNil,fun cl C ok=>(rCall lk.G ok ((fs_growth_at lk).up (by decide)) ⟨_,_,_,_,lk.look (o:=fo fd_growth_at) (by kernel_rfl)⟩ (i:=2) rfl lk.v_growth_at rfl (rxCons (rGetC ok rfl) (rxCons (rGetL ok rfl) rxNil))),fun _=>rfl⟩) (rCall lk.G ok ((fs_law_growths lk).up (by decide)) ⟨_,_,_,_,lk.look (o:=fo fd_law_growths) (by kernel_rfl)⟩ (i:=22) rfl lk.v_law_growths rfl (rxCons (rIdx (rGetL ok rfl) (rGetL ok rfl)) rxNil))) (rsSeq (rsRet rBool) rsNil) rsNil) rsNil))) (rsSeq (rsSetL ok rfl (rCall lk.G ok ((fs_products_in lk).up (by decide)) ⟨_,_,_,_,lk.look (o:=fo fd_products_in) (by kernel_rfl)⟩ (i:=23) rfl lk.v_products_in rfl (rxCons (rGetL ok rfl) (rxCons (rCall lk.G ok ((fs_steps_in lk).up (by decide)) ⟨_,_,_,_,lk.look (o:=fo fd_steps_in) (by kernel_rfl)⟩ (i:=24) rfl lk.v_steps_in rfl (rxCons (rGetL ok rfl) (rxCons (rGetL ok rfl) rxNil))) rxNil)))) (rsSeq (rsIf (rtCmp isNe (rGetL ok rfl) (rCall lk.G ok ((fs_law_pairs lk).up (by decide)) ⟨_,_,_,_,lk.look (o:=fo fd_law_pairs) (by kernel_rfl)⟩ (i:=25) rfl lk.v_law_pairs rfl (rxCons (rSlice ok (rGetL ok rfl) (.some rInt) (.some (rNeg rInt))) rxNil))) (rsSeq (rsRet rBool) rsNil) rsNil) (rsSeq (rsExpr ok (rCall lk.G ok ((fs_multiply_ahead lk).up (by decide)) ⟨_,_,_,_,lk.look (o:=fo fd_multiply_ahead) (by kernel_rfl)⟩ (i:=26) rfl lk.v_multiply_ahead rfl (rxCons (rGetL ok rfl) (rxCons (rGetL ok rfl) (rxCons (rIdx (rAttr lk.k_Func (i:=4) (by decide) (rGetL ok rfl)) rInt) (rxCons (rGetL ok rfl) rxNil)))))) (rsSeq (rsSetL ok rfl (rCall lk.G ok ((fs_law_draw lk).up (by decide)) ⟨_,_,_,_,lk.look (o:=fo fd_law_draw) (by kernel_rfl)⟩ (i:=15) rfl lk.v_law_draw rfl (rxCons (rGetC ok rfl) (rxCons rInt rxNil)))) (rsSeq (rsSetL ok rfl (rAddL ok (rListR lk.G ok (i:=27) rfl lk.n_list lk.b_list (j:=20) rfl lk.n_range lk.b_range (rxCons rInt (rxCons (rOp isAdd (rGetC ok rfl) rInt) rxNil))) (rComp ok ⟨sub_of rfl,(ri_range lk.G ok (i:=20) rfl lk.n_range lk.b_range (rxCons (rGetL ok rfl) rxNil)),fun cl C ok=>(tarNameL ok rfl),fun cl C ok=>rtstNil,fun cl C ok=>(rOp isAdd rInt (rCall lk.G ok ((fs_law_draw lk).up (by decide)) ⟨_,_,_,_,lk.look (o:=fo fd_law_draw) (by kernel_rfl)⟩ (i:=2) rfl lk.v_law_draw rfl (rxCons (rGetC ok rfl) (rxCons (rGetC ok rfl) rxNil)))),fun _=>rfl⟩))) (rsSeq (rsSetL ok rfl (rAddL ok (rComp ok ⟨sub_of rfl,(ri_range lk.G ok (i:=20) rfl lk.n_range lk.b_range (rxCons rInt rxNil)),fun cl C ok=>(tarNameL ok rfl),fun cl C ok=>rtstNil,fun cl C ok=>(rCall lk.G ok ((fs_law_draw lk).up (by decide)) ⟨_,_,_,_,lk.look (o:=fo fd_law_draw) (by kernel_rfl)⟩ (i:=2) rfl lk.v_law_draw rfl (rxCons (rGetC ok rfl) (rxCons (rGInt lk.G ok (i:=3) rfl lk.v_law_ALL) rxNil))),fun _=>rfl⟩) (rLstF ok (rxCons rInt rxNil)))) (rsSeq (rsSetComp ok ⟨sub_of rfl,(riListN ok (rFrz ok (rAttr lk.k_Func (i:=4) (by decide) (rGetL ok rfl)))),fun cl C ok=>(tarNameL ok rfl),fun cl C ok=>rtstNil,fun cl C ok=>(rComp ok ⟨sub_of rfl,(riListN ok (rFrz ok (rAttr lk.k_Block (i:=1) (by decide) (rGetL ok rfl)))),fun cl C ok=>(tarNameL ok rfl),fun cl C ok=>rtstNil,fun cl C ok=>(rTup ok (rxCons (rAttr lk.k_Step (i:=0) (by decide) (rGetL ok rfl)) (rxCons (rAttr lk.k_Step (i:=1) (by decide) (rGetL ok rfl)) (rxCons (rListC lk.G ok (i:=2) rfl lk.n_list lk.b_list (rxCons (rAttr lk.k_Step (i:=2) (by decide) (rGetL ok rfl)) rxNil)) rxNil)))),fun _=>rfl⟩),fun _=>rfl⟩ (.inl rfl) rfl) (rsSeq (rsRet (rCall lk.G ok ((fs_law_is_kept lk).up (by decide)) ⟨_,_,_,_,lk.look (o:=fo fd_law_is_kept) (by kernel_rfl)⟩ (i:=28) rfl lk.v_law_is_kept rfl (rxCons (rGetL ok rfl) (rxCons (rGetL ok rfl) (rxCons (rGetL ok rfl) (rxCons (rGetL ok rfl) (rxCons (rGetL ok rfl) rxNil))))))) rsNil))))))))))))))
theorem fs_law (lk:Lnk c):FSpec c 7 257 1 g_law:=fspec_of lk.G (fn_law lk) fun L ok=>rs_law lk ok
end
theorem clL_lst {l:List V} (h:cleanL l = true):V.clean (.lst l) = true:=h
theorem clL_tup {l:List V} (h:cleanL l = true):V.clean (.tup l) = true:=h
noncomputable def wp {α:Type} (m:AM α) (σ:St) (Q:α -> St -> Prop):Prop:=∃ a σ',m σ = some (a,σ') ∧ Q a σ'
noncomputable def ws (m:AM AFlow) (σ:St) (N:St -> Prop) (R:V -> St -> Prop):Prop:=wp m σ fun f σ'=>(f = .next ∧ N σ') ∨ ∃ v,f = .ret v ∧ R v σ'
theorem xe1 {A β:Type} {F:A -> β} {P:β -> Prop} (k:∀ a,P (F a)) (x:β) (h:∃ a,x = F a):P x:=by
 obtain ⟨a,rfl⟩:=h; exact k a
theorem xe3 {A1 B1 C1 β:Type} {F:A1 -> B1 -> C1 -> β} {P:β -> Prop} (k:∀ a b c,P (F a b c)) (x:β) (h:Ex3 fun a b c=>x = F a b c):P x:=by
 obtain ⟨a,b,c,rfl⟩:=h; exact k a b c
theorem xe4 {A1 B1 C1 D1 β:Type} {F:A1 -> B1 -> C1 -> D1 -> β} {P:β -> Prop} (k:∀ a b c d,P (F a b c d)) (x:β) (h:Ex4 fun a b c d=>x = F a b c d):P x:=by
 obtain ⟨a,b,c,d,rfl⟩:=h; exact k a b c d
theorem xe6 {A1 B1 C1 D1 E1 F1 β:Type} {F:A1 -> B1 -> C1 -> D1 -> E1 -> F1 -> β} {P:β -> Prop} (k:∀ a b c d e f,P (F a b c d e f)) (x:β) (h:Ex6 fun a b c d e f=>x = F a b c d e f):P x:=by
 obtain ⟨a,b,c,d,e,f,rfl⟩:=h; exact k a b c d e f
section
variable {α β:Type} {σ:St} {Q:α -> St -> Prop}
theorem wp_mono {m:AM α} {Q':α -> St -> Prop} (h:wp m σ Q) (k:∀ a σ',Q a σ' -> Q' a σ'):wp m σ Q':=(by obtain ⟨a,σ',e,q⟩:=h; exact ⟨a,σ',e,k _ _ q⟩)
theorem wp_bind {m:AM β} {f:β -> AM α} (h:wp m σ fun b σ'=>wp (f b) σ' Q):wp (m >>= f) σ Q:=by
 obtain ⟨b,σ1,e,a,σ2,e2,q⟩:=h
 exact ⟨a,σ2,AM.bind_some.mpr ⟨b,σ1,e,e2⟩,q⟩
theorem wp_pure {a:α} (q:Q a σ):wp (pure a) σ Q:=⟨a,σ,rfl,q⟩
end
section
variable {σ:St} {Q:V -> St -> Prop} {B:Bool -> St -> Prop} {L:List V -> St -> Prop} {U:Unit -> St -> Prop}
theorem wp_get {i:Nat} {v:V} (h:σ.loc[i]? = some v) (hv:v.ok = true) (q:Q v σ):wp (mGet i) σ Q:=by
 exact ⟨v,σ,obind_of h (if_pos hv),q⟩
theorem wp_nil (q:L [] σ):wp (mAll []) σ L:=wp_pure q
theorem wp_cons {m:AM V} {ms:List (AM V)} (h:wp m σ fun v σ1=>wp (mAll ms) σ1 fun vs σ2=>L (v :: vs) σ2):wp (mAll (m :: ms)) σ L :=
 wp_bind (wp_mono h fun _ _ h=>wp_bind (wp_mono h fun _ _ h=>wp_pure h))
theorem wp_tup {ms:List (AM V)} (h:wp (mAll ms) σ fun vs σ1=>vs.length < lid ∧ Q (.tup vs) σ1):wp (mTup ms) σ Q :=
 wp_bind (wp_mono h fun _ _ h=>by rw [if_pos h.1]; exact wp_pure h.2)
theorem wp_lstF {ms:List (AM V)} (h:wp (mAll ms) σ fun vs σ1=>vs.length < lid ∧ Q (.lst vs) σ1):wp (mLstF ms) σ Q :=
 wp_bind (wp_mono h fun _ _ h=>by rw [if_pos h.1]; exact wp_pure h.2)
theorem wp_alloc {g:Bool} {o:O} (h:Q (.ref g (σ.sel g).length) (σ.alloc g o)):wp (mAlloc g o) σ Q:=⟨_,_,rfl,h⟩
theorem wp_lstO {g:Bool} {ms:List (AM V)} (h:wp (mAll ms) σ fun vs σ1=>vs.length < lid ∧ (g = true -> cleanL vs = true) ∧ Q (.ref g (σ1.sel g).length) (σ1.alloc g (.list vs))):wp (mLstO g ms) σ Q :=
 wp_bind (wp_mono h fun _ _ h=>by rw [if_pos ⟨h.1,h.2.1⟩]; exact wp_alloc h.2.2)
theorem wp_op {f:V -> V -> Option V} {a b:AM V} (h:wp a σ fun x σ1=>wp b σ1 fun y σ2=>∃ r,f x y = some r ∧ Q r σ2):wp (mOp f a b) σ Q :=
 wp_bind (wp_mono h fun _ _ h=>wp_bind (wp_mono h fun _ _ q1_=>by obtain ⟨r,e,q⟩:=q1_; exact by rw [e]; exact wp_pure q))
theorem wp_mcmp {f:St -> V -> V -> Option Bool} {a b:AM V} (h:wp a σ fun x σ1=>wp b σ1 fun y σ2=>∃ r,f σ2 x y = some r ∧ Q (.bool r) σ2):wp (mCmp f a b) σ Q :=
 wp_bind (wp_mono h fun _ _ h=>wp_bind (wp_mono h fun x σ2 q1_=>by obtain ⟨r,e,q⟩:=q1_; exact ⟨.bool r,σ2,by dsimp only; rw [e]; rfl,q⟩))
theorem wp_tcmp {f:St -> V -> V -> Option Bool} {a b:AM V} (h:wp a σ fun x σ1=>wp b σ1 fun y σ2=>∃ r,f σ2 x y = some r ∧ B r σ2):wp (tCmp f a b) σ B :=
 wp_bind (wp_mono h fun _ _ h=>wp_bind (wp_mono h fun x σ2 q1_=>by obtain ⟨r,e,q⟩:=q1_; exact ⟨r,σ2,by dsimp only; rw [e]; rfl,q⟩))
theorem wp_attr {C:Addr} {i:Nat} {x:Str} {m:AM V} (h:wp m σ fun v σ1=>∃ u,attrOf C i x σ1 v = some u ∧ Q u σ1):wp (mAttr C i x m) σ Q :=
 wp_bind (wp_mono h fun v σ1 q1_=>by obtain ⟨u,e,q⟩:=q1_; exact ⟨u,σ1,by dsimp only; rw [e]; rfl,q⟩)
theorem wp_idx {a i:AM V} (h:wp a σ fun x σ1=>wp i σ1 fun y σ2=>∃ v,getIdx σ2 x y = some v ∧ Q v σ2):wp (mIdx a i) σ Q :=
 wp_bind (wp_mono h fun _ _ h=>wp_bind (wp_mono h fun y σ2 q1_=>by obtain ⟨v,e,q⟩:=q1_; exact ⟨v,σ2,by dsimp only; rw [e]; rfl,q⟩))
theorem wp_if {t:AM Bool} {a b:AM V} (h:wp t σ fun x σ1=>(x = true -> wp a σ1 Q) ∧ (x = false -> wp b σ1 Q)):wp (mIf t a b) σ Q :=
 wp_bind (wp_mono h fun x _ h=>by cases x; exact h.2 rfl; exact h.1 rfl)
theorem wp_call {g:List V -> List O -> Option (V × List O)} {ms:List (AM V)} (h:wp (mAll ms) σ fun vs σ1=>cleanL vs = true ∧ ∃ r H,g vs σ1.heap = some (r,H) ∧ Q r ⟨σ1.loc,σ1.tmp,H⟩):wp (mCall g ms) σ Q :=
 wp_bind (wp_mono h fun vs σ1 q1_=>by obtain ⟨k,r,H,e,q⟩:=q1_; exact ⟨r,_,by dsimp only; rw [if_pos k,e]; rfl,q⟩)
theorem wt_nil (h:B true σ):wp (tAnd []) σ B:=wp_pure h
theorem wt_cons {m:AM Bool} {ms:List (AM Bool)} (h:wp m σ fun b σ1=>(b = true -> wp (tAnd ms) σ1 B) ∧ (b = false -> B false σ1)):wp (tAnd (m :: ms)) σ B :=
 wp_bind (wp_mono h fun x _ h=>by cases x; exact wp_pure (h.2 rfl); exact h.1 rfl)
theorem wo_nil (h:B false σ):wp (tOr []) σ B:=wp_pure h
theorem wo_cons {m:AM Bool} {ms:List (AM Bool)} (h:wp m σ fun b σ1=>(b = true -> B true σ1) ∧ (b = false -> wp (tOr ms) σ1 B)):wp (tOr (m :: ms)) σ B :=
 wp_bind (wp_mono h fun x _ h=>by cases x; exact h.2 rfl; exact wp_pure (h.1 rfl))
theorem wt_not {m:AM Bool} (h:wp m σ fun b σ1=>B (!b) σ1):wp (tNot m) σ B:=wp_bind (wp_mono h fun _ _ h=>wp_pure h)
theorem wt_val {m:AM V} (h:wp m σ fun v σ1=>∃ b,v.truth σ1 = some b ∧ B b σ1):wp (tVal m) σ B :=
 wp_bind (wp_mono h fun v σ1 q1_=>by obtain ⟨b,e,q⟩:=q1_; exact ⟨b,σ1,by dsimp only; rw [e]; rfl,q⟩)
theorem wa_one {m:AM V} (h:wp m σ Q):wp (mAnd [m]) σ Q:=h
theorem wa_cons {m m2:AM V} {ms:List (AM V)} (h:wp m σ fun v σ1=>∃ b,v = .bool b ∧ (b = true -> wp (mAnd (m2 :: ms)) σ1 Q) ∧ (b = false -> Q (.bool false) σ1)):wp (mAnd (m :: m2 :: ms)) σ Q :=
 wp_bind (wp_mono h fun v _ q1_=>by obtain ⟨b,e,h⟩:=q1_; exact by subst e; cases b; exact wp_pure (h.2 rfl); exact h.1 rfl)
theorem wp_len {m:AM V} (h:wp m σ fun v σ1=>∃ vs,listOf? σ1 v = some vs ∧ vs.length < lid ∧ Q (.int vs.length) σ1):wp (mLen m) σ Q :=
 wp_bind (wp_mono h fun v σ1 q1_=>by obtain ⟨vs,e,k,q⟩:=q1_; exact ⟨_,σ1,obind_of e (if_pos k),q⟩)
theorem wp_listC {m:AM V} (h:wp m σ fun v σ1=>∃ vs,listOf? σ1 v = some vs ∧ vs.length < lid ∧ Q (.lst vs) σ1):wp (mListC (fun _=>none) m) σ Q :=
 wp_bind (wp_mono h fun v σ1 q1_=>by obtain ⟨vs,e,k,q⟩:=q1_; exact ⟨_,σ1,obind_of e (obind_of (if_pos k) rfl),q⟩)
theorem wp_int {m:AM V} (h:wp m σ fun v σ1=>∃ i,v = .int i ∧ Q (.int i) σ1):wp (mInt m) σ Q :=
 wp_bind (wp_mono h fun v σ1 q1_=>by obtain ⟨i,e,q⟩:=q1_; exact by subst e; exact wp_pure q)
theorem wp_items {m:AM V} (h:wp m σ fun v σ1=>∃ vs,v = .lst vs ∧ L vs σ1):wp (mItems m) σ L :=
 wp_bind (wp_mono h fun v σ1 q1_=>by obtain ⟨i,e,q⟩:=q1_; exact by subst e; exact wp_pure q)
theorem int2_eq {β:Type} {f:Int -> Int -> Option β} {a b:Int}:int2 f (.int a) (.int b) = f a b:=rfl
theorem wp_range1 {m:AM V} (h:wp m σ fun v σ1=>∃ n:Int,v = .int n ∧ -(2 ^ 20) < n ∧ n < 2 ^ 20 ∧ L (intR 0 n.toNat) σ1):wp (mRange [m]) σ L :=
 wp_bind (wp_mono h fun v σ1 q1_=>by obtain ⟨i,e,h1,h2,q⟩:=q1_; subst e; exact ⟨_,σ1,by show Option.map _ ((V.asInt (.int i)).bind _) = _; rw [show V.asInt (.int i) = some i from rfl,Option.bind_some,if_pos ⟨h1,h2⟩]; rfl,q⟩)
theorem wp_range2 {m k:AM V} (h:wp m σ fun v σ1=>wp k σ1 fun u σ2=>∃ a b:Int,v = .int a ∧ u = .int b ∧ -(2 ^ 20) < a ∧ a < 2 ^ 20 ∧ -(2 ^ 20) < b ∧ b < 2 ^ 20 ∧ L (intR a (b - a).toNat) σ2):wp (mRange [m,k]) σ L :=
 wp_bind (wp_mono h fun v σ1 h=>wp_bind (wp_mono h fun u σ2 q1_=>by obtain ⟨a,b,e1,e2,h1,h2,h3,h4,q⟩:=q1_; subst e1; subst e2; exact ⟨_,σ2,by show Option.map _ (int2 _ (.int a) (.int b)) = _; rw [int2_eq,if_pos ⟨h1,h2,h3,h4⟩]; rfl,q⟩))
theorem wp_listR {m k:AM V} (h:wp m σ fun v σ1=>wp k σ1 fun u σ2=>∃ a b:Int,v = .int a ∧ u = .int b ∧ -(2 ^ 20) < a ∧ a < 2 ^ 20 ∧ -(2 ^ 20) < b ∧ b < 2 ^ 20 ∧ Q (.lst (intR a (b - a).toNat)) σ2):wp (mListR m k) σ Q :=
 wp_bind (wp_mono h fun v σ1 h=>wp_bind (wp_mono h fun u σ2 q1_=>by obtain ⟨a,b,e1,e2,h1,h2,h3,h4,q⟩:=q1_; subst e1; subst e2; exact ⟨_,σ2,by show Option.map _ (int2 _ (.int a) (.int b)) = _; rw [int2_eq,if_pos ⟨h1,h2,h3,h4⟩]; rfl,q⟩))
theorem wp_setR {m k:AM V} (h:wp m σ fun v σ1=>wp k σ1 fun u σ2=>∃ b:Int,v = .int 1 ∧ u = .int b ∧ 1 ≤ b ∧ b ≤ 4 ∧ Q (.blk (b - 1).toNat) σ2):wp (mSetR m k) σ Q :=
 wp_bind (wp_mono h fun v σ1 h=>wp_bind (wp_mono h fun u σ2 q1_=>by obtain ⟨b,e1,e2,h1,h2,q⟩:=q1_; subst e1; subst e2; exact ⟨_,σ2,by show Option.map _ (int2 _ (.int 1) (.int b)) = _; rw [int2_eq,if_pos ⟨rfl,h1,h2⟩]; rfl,q⟩))
theorem wp_enum {m:AM V} (h:wp (mItems m) σ fun vs σ1=>L (enumV 0 vs) σ1):wp (mEnum [m]) σ L:=wp_bind (wp_mono h fun _ _ h=>wp_pure h)
theorem wp_zip {m k:AM V} (h:wp (mItems m) σ fun vs σ1=>wp (mItems k) σ1 fun us σ2=>L (zipV vs us) σ2):wp (mZip [m,k]) σ L :=
 wp_bind (wp_mono h fun _ _ h=>wp_bind (wp_mono h fun _ _ h=>wp_pure h))
theorem wp_sortedB {m:AM V} (h:wp m σ fun v σ1=>∃ n,v = .blk n ∧ n ≤ 3 ∧ Q (.lst (intR 1 n)) σ1):wp (mSortedB m) σ Q :=
 wp_bind (wp_mono h fun v σ1 q1_=>by obtain ⟨n,e,k,q⟩:=q1_; exact by subst e; dsimp only; rw [if_pos k]; exact wp_pure q)
theorem wp_sorted {m:AM V} (h:wp m σ fun v σ1=>∃ ps,srcP σ1 v = some ps ∧ ps.length < 64 ∧ Q (.lst ((sortP ps).map pairV)) σ1):wp (mSorted m) σ Q :=
 wp_bind (wp_mono h fun v σ1 q1_=>by obtain ⟨ps,e,k,q⟩:=q1_; exact ⟨_,σ1,obind_of e (if_pos k),q⟩)
theorem wp_sum {m:AM V} (h:wp m σ fun v σ1=>∃ vs ns,listOf? σ1 v = some vs ∧ intsOf vs = some ns ∧ Q (.int (sumI ns)) σ1):wp (mSum m) σ Q :=
 wp_bind (wp_mono h fun v σ1 q1_=>by obtain ⟨vs,ns,e,k,q⟩:=q1_; exact ⟨_,σ1,obind_of e (omap_of k),q⟩)
theorem wp_setOf {m:AM V} (h:wp m σ fun v σ1=>∃ vs ns,v.view σ1 = some (.list vs) ∧ intsOf vs = some ns ∧ ns.length < 1000 ∧ Q (.set (dedupI ns)) σ1):wp (mSetOf m) σ Q :=
 wp_bind (wp_mono h fun v σ1 q1_=>by obtain ⟨vs,ns,e,k,l,q⟩:=q1_; exact ⟨_,σ1,obind_of (obind_of e rfl) (obind_of k (if_pos l)),q⟩)
theorem wp_diff {a b:AM V} (h:wp a σ fun x σ1=>wp b σ1 fun y σ2=>∃ ks ls,setOf? σ2 x = some ks ∧ setOf? σ2 y = some ls ∧ ks.Nodup ∧ ks.length / 4 ≤ ls.length ∧ Q (.set (ks.filter fun k=>!ls.contains k)) σ2):wp (mDiff a b) σ Q :=
 wp_bind (wp_mono h fun _ _ h=>wp_bind (wp_mono h fun x σ2 q1_=>by obtain ⟨ks,ls,e1,e2,k1,k2,q⟩:=q1_; exact ⟨_,σ2,obind_of e1 (obind_of e2 (if_pos ⟨k1,k2⟩)),q⟩))
theorem wp_frz {m:AM V} (h:wp m σ fun v σ1=>∃ u σ2,frzV v σ1 = some (u,σ2) ∧ Q u σ2):wp (mFrz m) σ Q:=wp_bind (wp_mono h fun _ _ q1_=>by obtain ⟨u,σ2,e,q⟩:=q1_; exact ⟨u,σ2,e,q⟩)
theorem wp_frzL {m:AM V} (h:wp m σ fun v σ1=>∃ vs us σ2,v = .lst vs ∧ frzL vs σ1 = some (us,σ2) ∧ Q (.lst us) σ2):wp (mFrzL m) σ Q :=
 wp_bind (wp_mono h fun _ _ q1_=>by obtain ⟨vs,u,σ2,e1,e,q⟩:=q1_; exact by subst e1; exact wp_bind ⟨u,σ2,e,wp_pure q⟩)
theorem wp_pnone {P:Option Int -> St -> Prop} (q:P none σ):wp (mPart none) σ P:=wp_pure q
theorem wp_psome {P:Option Int -> St -> Prop} {m:AM V} (h:wp m σ fun v σ1=>∃ i,v = .int i ∧ P (some i) σ1):wp (mPart (some m)) σ P :=
 wp_bind (wp_mono h fun v σ1 q1_=>by obtain ⟨i,e,q⟩:=q1_; exact by subst e; exact wp_pure q)
theorem wp_slice {m:AM V} {lo hi:Option (AM V)} (h:wp m σ fun v σ1=>wp (mPart lo) σ1 fun a σ2=>wp (mPart hi) σ2 fun b σ3=>∃ vs,listOf? σ3 v = some vs ∧ vs.length < lid ∧ Q (.lst (sliceV a b vs)) σ3):wp (mSlice m lo hi) σ Q :=
 wp_bind (wp_mono h fun v σ1 h=>wp_bind (wp_mono h fun a σ2 h=>wp_bind (wp_mono h fun b σ3 q1_=>by obtain ⟨vs,e,k,q⟩:=q1_; exact ⟨_,σ3,obind_of e (if_pos k),q⟩)))
theorem wp_addL {out:St -> Option Bool} {a b:AM V} (h:wp a σ fun x σ1=>wp b σ1 fun y σ2=>∃ vs us,listOf? σ2 x = some vs ∧ listOf? σ2 y = some us ∧ vs.length + us.length < lid ∧ wp (mOut out (vs ++ us)) σ2 Q):wp (mAddL out a b) σ Q :=
 wp_bind (wp_mono h fun _ _ h=>wp_bind (wp_mono h fun x σ2 q1_=>by obtain ⟨ks,ls,e1,e2,k,r,σ3,e3,q⟩:=q1_; exact ⟨r,σ3,obind_of e1 (obind_of e2 (obind_of (if_pos k) e3)),q⟩))
theorem wp_outF {vs:List V} (q:Q (.lst vs) σ):wp (mOut (fun _=>none) vs) σ Q:=⟨_,σ,rfl,q⟩
theorem wp_outT {vs:List V} (c:cleanL vs = true) (q:Q (.ref true σ.heap.length) ⟨σ.loc,σ.tmp,σ.heap ++ [.list vs]⟩):wp (mOut (fun _=>some true) vs) σ Q:=⟨_,_,by unfold mOut; dsimp only; rw [if_pos fun _=>c]; rfl,q⟩
theorem wp_compE {out:St -> Option Bool} {m:AM (List V)} (h:wp m σ fun vs σ1=>wp (mOut out vs) σ1 Q):wp (mCompE out m) σ Q:=wp_bind h
theorem wp_sub {α:Type} {Q:α -> St -> Prop} {fm:List (Option Nat)} {m:AM α} (h:wp m ⟨locIn fm σ.loc,σ.tmp,σ.heap⟩ fun a σ1=>Q a ⟨σ.loc,σ1.tmp,σ1.heap⟩):wp (inSub fm m) σ Q:=by
 obtain ⟨a,σ1,e,q⟩:=h
 exact ⟨a,_,omap_of e,q⟩
theorem wp_comp {fm:List (Option Nat)} {mi:AM (List V)} {mt:V -> AM Unit} {test:AM Bool} {me:AM V} (h:wp mi σ fun vs σ1=>wp (compM mt test me vs) ⟨locIn fm σ1.loc,σ1.tmp,σ1.heap⟩ fun all σ2=>all.length < lid ∧ L all ⟨σ1.loc,σ2.tmp,σ2.heap⟩):wp (mComp fm mi mt test me) σ L :=
 wp_bind (wp_mono h fun vs σ1 h=>wp_bind (wp_sub (wp_mono h fun all σ2 h=>by rw [if_pos h.1]; exact wp_pure h.2)))
theorem wp_comp2 {fm:List (Option Nat)} {mi:AM (List V)} {mt0:V -> AM Unit} {mi1:AM (List V)} {mt:V -> AM Unit} {test:AM Bool} {me:AM V} (h:wp mi σ fun vs σ1=>wp (compM2 mt0 mi1 mt test me vs) ⟨locIn fm σ1.loc,σ1.tmp,σ1.heap⟩ fun all σ2=>all.length < lid ∧ L all ⟨σ1.loc,σ2.tmp,σ2.heap⟩):wp (mComp2 fm mi mt0 mi1 mt test me) σ L :=
 wp_bind (wp_mono h fun vs σ1 h=>wp_bind (wp_sub (wp_mono h fun all σ2 h=>by rw [if_pos h.1]; exact wp_pure h.2)))
theorem wp_compM {α:Type} (f:α -> V) (xs:List α) (I:List α -> List V -> St -> Prop) {mt:V -> AM Unit} {test:AM Bool} {me:AM V} (h0:I [] [] σ)
  (hs:∀ pre x post out σ,xs = pre ++ x :: post -> I pre out σ -> wp (mt (f x)) σ fun _ σ1=>wp test σ1 fun b σ2=>(b = true -> wp me σ2 fun v σ3=>I (pre ++ [x]) (out ++ [v]) σ3) ∧ (b = false -> I (pre ++ [x]) out σ2))
  (hq:∀ out σ,I xs out σ -> L out σ):wp (compM mt test me (xs.map f)) σ L:=by
 have gen:∀ post pre out σ,xs = pre ++ post -> I pre out σ -> wp (compM mt test me (post.map f)) σ fun r σ'=>I xs (out ++ r) σ':=by
  intro post
  induction post with
  | nil=>intro pre out σ e i; rw [List.append_nil] at e; subst e; exact wp_pure (by rwa [List.append_nil])
  | cons x post ih =>
   intro pre out σ e i
   rw [List.map_cons]
   refine wp_bind (wp_mono (hs pre x post out σ e i) fun _ σ1 h=>wp_bind (wp_mono h fun b σ2 h=>?_))
   cases b with
   | true =>
    rw [if_pos rfl]
    refine wp_bind (wp_mono (h.1 rfl) fun v σ3 h=>wp_bind (wp_mono (ih (pre ++ [x]) _ _ (by rw [e]; simp) h) fun r σ4 h=>wp_pure ?_))
    rwa [List.append_assoc] at h
   | false =>
    rw [if_neg (by decide)]
    exact ih (pre ++ [x]) _ _ (by rw [e]; simp) (h.2 rfl)
 exact wp_mono (gen xs [] [] σ rfl h0) fun r σ' h=>hq _ _ (by rwa [List.nil_append] at h)
theorem wp_compM2 {α:Type} (f:α -> V) (xs:List α) (I:List α -> List V -> St -> Prop) {mt0:V -> AM Unit} {mi1:AM (List V)} {mt:V -> AM Unit} {test:AM Bool} {me:AM V} (h0:I [] [] σ)
  (hs:∀ pre x post out σ,xs = pre ++ x :: post -> I pre out σ -> wp (mt0 (f x)) σ fun _ σ1=>wp mi1 σ1 fun ws σ2=>wp (compM mt test me ws) σ2 fun r σ3=>I (pre ++ [x]) (out ++ r) σ3)
  (hq:∀ out σ,I xs out σ -> L out σ):wp (compM2 mt0 mi1 mt test me (xs.map f)) σ L:=by
 have gen:∀ post pre out σ,xs = pre ++ post -> I pre out σ -> wp (compM2 mt0 mi1 mt test me (post.map f)) σ fun r σ'=>I xs (out ++ r) σ':=by
  intro post
  induction post with
  | nil=>intro pre out σ e i; rw [List.append_nil] at e; subst e; exact wp_pure (by rwa [List.append_nil])
  | cons x post ih =>
   intro pre out σ e i
   rw [List.map_cons]
   refine wp_bind (wp_mono (hs pre x post out σ e i) fun _ σ1 h=>wp_bind (wp_mono h fun ws σ2 h=>wp_bind (wp_mono h fun r1 σ3 h=>?_)))
   refine wp_bind (wp_mono (ih (pre ++ [x]) _ _ (by rw [e]; simp) h) fun r2 σ4 h=>wp_pure ?_)
   rwa [List.append_assoc] at h
 exact wp_mono (gen xs [] [] σ rfl h0) fun r σ' h=>hq _ _ (by rwa [List.nil_append] at h)
theorem wu_name {i:Nat} {v:V} (q:U () (σ.setLoc i v)):wp (tName i v) σ U:=⟨(),_,rfl,q⟩
theorem wu_tup {ts:List (V -> AM Unit)} {v:V} {vs:List V} (h:v.items σ = some vs) (hl:vs.length = ts.length) (q:wp (tEach ts vs) σ U):wp (tTup ts v) σ U :=
 wp_bind ⟨vs,σ,by unfold unp; rw [h]; exact if_pos hl,q⟩
theorem wu_nil (q:U () σ):wp (tEach [] []) σ U:=wp_pure q
theorem wu_cons {t:V -> AM Unit} {ts:List (V -> AM Unit)} {v:V} {vs:List V} (h:wp (t v) σ fun _ σ1=>wp (tEach ts vs) σ1 U):wp (tEach (t :: ts) (v :: vs)) σ U:=wp_bind h
end
section
variable {σ:St} {N:St -> Prop} {R:V -> St -> Prop}
theorem ws_mono {m:AM AFlow} {N':St -> Prop} {R':V -> St -> Prop} (h:ws m σ N R) (k:∀ σ',N σ' -> N' σ') (k2:∀ v σ',R v σ' -> R' v σ'):ws m σ N' R' :=
 wp_mono h fun _ _ h=>h.imp (fun q1_=>by obtain ⟨e,h⟩:=q1_; exact ⟨e,k _ h⟩) fun q1_=>by obtain ⟨v,e,h⟩:=q1_; exact ⟨v,e,k2 _ _ h⟩
theorem ws_next (q:N σ):ws (pure .next) σ N R:=wp_pure (.inl ⟨rfl,q⟩)
theorem ws_nil (q:N σ):ws sNil σ N R:=ws_next q
theorem ws_seq {a b:AM AFlow} (h:ws a σ (fun σ1=>ws b σ1 N R) R):ws (sSeq a b) σ N R:=by
 refine wp_bind (wp_mono h fun f σ1 h=>?_)
 rcases h with ⟨rfl,h⟩ | ⟨v,rfl,h⟩
 ·exact h
 ·exact wp_pure (.inr ⟨v,rfl,h⟩)
theorem ws_set {i:Nat} {m:AM V} (h:wp m σ fun v σ1=>N (σ1.setLoc i v)):ws (sSet i m) σ N R:=wp_bind (wp_mono h fun v σ1 h=>wp_bind ⟨(),_,rfl,ws_next h⟩)
theorem ws_setT {t:V -> AM Unit} {m:AM V} (h:wp m σ fun v σ1=>wp (t v) σ1 fun _ σ2=>N σ2):ws (sSetT t m) σ N R:=wp_bind (wp_mono h fun v σ1 h=>wp_bind (wp_mono h fun _ _ h=>ws_next h))
theorem ws_swap {is:List Nat} {m:AM V} (h:wp m σ fun v σ1=>∃ vs,v = .tup vs ∧ vs.length = is.length ∧ wp (tEach (is.map tName) vs.reverse) σ1 fun _ σ2=>N σ2):ws (sSwap is m) σ N R :=
 wp_bind (wp_mono h fun v σ1 q1_=>by obtain ⟨vs,e,l,h⟩:=q1_; exact by subst e; exact wp_bind ⟨vs,σ1,by unfold unp; exact if_pos l,wp_bind (wp_mono h fun _ _ h=>ws_next h)⟩)
theorem ws_if {t:AM Bool} {a b:AM AFlow} (h:wp t σ fun x σ1=>(x = true -> ws a σ1 N R) ∧ (x = false -> ws b σ1 N R)):ws (sIf t a b) σ N R :=
 wp_bind (wp_mono h fun x _ h=>by cases x; exact h.2 rfl; exact h.1 rfl)
theorem ws_ret {m:AM V} (h:wp m σ fun v σ1=>R v σ1):ws (sRet m) σ N R:=wp_bind (wp_mono h fun v σ1 h=>wp_pure (.inr ⟨v,rfl,h⟩))
theorem ws_expr {m:AM V} (h:wp m σ fun v σ1=>v = .none ∧ N σ1):ws (sExpr m) σ N R:=wp_bind (wp_mono h fun v σ1 q1_=>by obtain ⟨e,h⟩:=q1_; exact by subst e; exact ws_next h)
theorem ws_aug {i:Nat} {f:V -> V -> Option V} {m:AM V} (h:wp (mOp f (mGet i) m) σ fun v σ1=>N (σ1.setLoc i v)):ws (sAug i f m) σ N R:=wp_bind (wp_mono h fun v σ1 h=>wp_bind ⟨(),_,rfl,ws_next h⟩)
theorem ws_sub {o i e:AM V} (h:wp e σ fun v σ1=>wp o σ1 fun x σ2=>wp i σ2 fun k σ3=>wp (setSub x k v) σ3 fun _ σ4=>N σ4):ws (sSub o i e) σ N R :=
 wp_bind (wp_mono h fun v σ1 h=>wp_bind (wp_mono h fun x σ2 h=>wp_bind (wp_mono h fun k σ3 h=>wp_bind (wp_mono h fun _ _ h=>ws_next h))))
theorem ws_attr {C:Addr} {x:Str} {mo me:AM V} (h:wp me σ fun v σ1=>wp mo σ1 fun o σ2=>isCls C o = true ∧ wp (setAt x o v) σ2 fun _ σ3=>N σ3):ws (sAttr C x mo me) σ N R :=
 wp_bind (wp_mono h fun v σ1 h=>wp_bind (wp_mono h fun o σ2 q1_=>by obtain ⟨k,h⟩:=q1_; exact by rw [if_pos k]; exact wp_bind (wp_mono h fun _ _ h=>ws_next h)))
theorem ws_augA {C:Addr} {i:Nat} {x:Str} {f:V -> V -> Option V} {mo me:AM V} (h:wp mo σ fun o σ1=>∃ old,attrOf C i x σ1 o = some old ∧ wp me σ1 fun v σ2=>isCls C o = true ∧ ∃ r,f old v = some r ∧ wp (setAt x o r) σ2 fun _ σ3=>N σ3):ws (sAugA C i x f mo me) σ N R :=
 wp_bind (wp_mono h fun o σ1 q1_=>by obtain ⟨old,e,h⟩:=q1_; exact wp_bind ⟨old,σ1,by dsimp only; rw [e]; rfl,wp_bind (wp_mono h fun v σ2 q1_=>by obtain ⟨k,r,e2,h⟩:=q1_; exact by rw [if_pos k,e2]; exact wp_bind (wp_mono h fun _ _ h=>ws_next h))⟩)
theorem ws_for {mt:V -> AM Unit} {mi:AM (List V)} {body:AM AFlow} (h:wp mi σ fun vs σ1=>ws (forM mt body vs) σ1 N R):ws (sFor mt mi body) σ N R:=wp_bind h
theorem ws_fnil {mt:V -> AM Unit} {body:AM AFlow} (h:N σ):ws (forM mt body []) σ N R:=ws_next h
theorem ws_fcons {mt:V -> AM Unit} {body:AM AFlow} {v:V} {vs:List V} (h:wp (mt v) σ fun _ σ1=>ws body σ1 (fun σ2=>ws (forM mt body vs) σ2 N R) R):ws (forM mt body (v :: vs)) σ N R:=by
 refine wp_bind (wp_mono h fun _ σ1 h=>wp_bind (wp_mono h fun f σ2 h=>?_))
 rcases h with ⟨rfl,h⟩ | ⟨u,rfl,h⟩
 ·exact h
 ·exact wp_pure (.inr ⟨u,rfl,h⟩)
theorem ws_forI {α:Type} (f:α -> V) (xs:List α) (I:List α -> St -> Prop) {mt:V -> AM Unit} {body:AM AFlow} (h0:I [] σ)
  (hs:∀ pre x post σ,xs = pre ++ x :: post -> I pre σ -> wp (mt (f x)) σ fun _ σ1=>ws body σ1 (fun σ2=>I (pre ++ [x]) σ2) R)
  (hq:∀ σ,I xs σ -> N σ):ws (forM mt body (xs.map f)) σ N R:=by
 have gen:∀ post pre σ,xs = pre ++ post -> I pre σ -> ws (forM mt body (post.map f)) σ N R:=by
  intro post
  induction post with
  | nil=>intro pre σ e i; rw [List.append_nil] at e; subst e; exact ws_fnil (hq _ i)
  | cons x post ih =>
   intro pre σ e i
   rw [List.map_cons]
   refine ws_fcons (wp_mono (hs pre x post σ e i) fun _ σ1 h=>ws_mono h (fun σ2 h=>?_) fun _ _ h=>h)
   exact ih (pre ++ [x]) _ (by rw [e]; simp) h
 exact gen xs [] σ rfl h0
theorem ws_while {test:AM Bool} {body:AM AFlow} {k:Nat} (I:Nat -> St -> Prop) (n:Nat) (hn:n < k) (h0:I n σ)
  (hs:∀ n σ,I n σ -> wp test σ fun b σ1=>(b = true -> ws body σ1 (fun σ2=>∃ m,m < n ∧ I m σ2) R) ∧ (b = false -> N σ1)):ws (whileM test body k) σ N R:=by
 induction k generalizing n σ with
 | zero=>exact absurd hn (Nat.not_lt_zero _)
 | succ k ih =>
  refine wp_bind (wp_mono (hs n σ h0) fun b σ1 h=>?_)
  cases b with
  | false=>rw [if_neg (by decide)]; exact ws_next (h.2 rfl)
  | true =>
   rw [if_pos rfl]
   refine wp_bind (wp_mono (h.1 rfl) fun f σ2 h=>?_)
   rcases h with ⟨rfl,m,hm,h⟩ | ⟨u,rfl,h⟩
   ·exact ih m (by omega) h
   ·exact wp_pure (.inr ⟨u,rfl,h⟩)
end
noncomputable abbrev Ev {α:Type} (m:AM α) (σ:St) (v:α):Prop:=m σ = some (v,σ)
section
variable {σ:St} {α β:Type}
theorem wp_ev {m:AM α} {v:α} {Q:α -> St -> Prop} (h:Ev m σ v) (q:Q v σ):wp m σ Q:=⟨v,σ,h,q⟩
theorem ev_bind {m:AM β} {f:β -> AM α} {b:β} {a:α} (h:Ev m σ b) (k:Ev (f b) σ a):Ev (m >>= f) σ a:=AM.bind_some.mpr ⟨b,σ,h,k⟩
theorem ev_pure {v:α}:Ev (pure v) σ v:=rfl
theorem ev_get {i:Nat} {v:V} (h:σ.loc[i]? = some v) (hv:v.ok = true):Ev (mGet i) σ v:=by
 exact obind_of h (if_pos hv)
theorem ev_nil:Ev (mAll []) σ []:=rfl
theorem ev_cons {m:AM V} {ms:List (AM V)} {v:V} {vs:List V} (h1:Ev m σ v) (h2:Ev (mAll ms) σ vs):Ev (mAll (m :: ms)) σ (v :: vs):=ev_bind h1 (ev_bind h2 rfl)
theorem ev_tup {ms:List (AM V)} {vs:List V} (h:Ev (mAll ms) σ vs) (k:vs.length < lid):Ev (mTup ms) σ (.tup vs):=ev_bind h (by rw [if_pos k]; rfl)
theorem ev_lst {ms:List (AM V)} {vs:List V} (h:Ev (mAll ms) σ vs) (k:vs.length < lid):Ev (mLstF ms) σ (.lst vs):=ev_bind h (by rw [if_pos k]; rfl)
theorem ev_op {f:V -> V -> Option V} {a b:AM V} {x y r:V} (h1:Ev a σ x) (h2:Ev b σ y) (e:f x y = some r):Ev (mOp f a b) σ r:=ev_bind h1 (ev_bind h2 (by rw [e]; rfl))
theorem ev_neg {a:AM V} {i:Int} (h:Ev a σ (.int i)):Ev (mNeg a) σ (.int (-i)):=ev_bind h rfl
theorem ev_mcmp {f:St -> V -> V -> Option Bool} {a b:AM V} {x y:V} {r:Bool} (h1:Ev a σ x) (h2:Ev b σ y) (e:f σ x y = some r):Ev (mCmp f a b) σ (.bool r):=ev_bind h1 (ev_bind h2 (by unfold Ev; dsimp only; rw [e]; rfl))
theorem ev_tcmp {f:St -> V -> V -> Option Bool} {a b:AM V} {x y:V} {r:Bool} (h1:Ev a σ x) (h2:Ev b σ y) (e:f σ x y = some r):Ev (tCmp f a b) σ r:=ev_bind h1 (ev_bind h2 (by unfold Ev; dsimp only; rw [e]; rfl))
theorem ev_attr {C:Addr} {i:Nat} {x:Str} {m:AM V} {v u:V} (h:Ev m σ v) (e:attrOf C i x σ v = some u):Ev (mAttr C i x m) σ u:=ev_bind h (by unfold Ev; dsimp only; rw [e]; rfl)
theorem ev_idx {a b:AM V} {x y v:V} (h1:Ev a σ x) (h2:Ev b σ y) (e:getIdx σ x y = some v):Ev (mIdx a b) σ v:=ev_bind h1 (ev_bind h2 (by unfold Ev; dsimp only; rw [e]; rfl))
theorem ev_items {m:AM V} {vs:List V} (h:Ev m σ (.lst vs)):Ev (mItems m) σ vs:=ev_bind h rfl
theorem ev_val {m:AM V} {v:V} {b:Bool} (h:Ev m σ v) (e:v.truth σ = some b):Ev (tVal m) σ b:=ev_bind h (by unfold Ev; dsimp only; rw [e]; rfl)
variable {N:St -> Prop} {R:V -> St -> Prop} {b:AM AFlow}
theorem ws_eset {i:Nat} {m:AM V} {v:V} (h:Ev m σ v) (q:ws b (σ.setLoc i v) N R):ws (sSeq (sSet i m) b) σ N R:=ws_seq (ws_set (wp_ev h q))
theorem ws_eret {m:AM V} {v:V} (h:Ev m σ v) (q:R v σ):ws (sSeq (sRet m) b) σ N R:=ws_seq (ws_ret (wp_ev h q))
theorem ws_eif {t:AM Bool} {x:Bool} {a c:AM AFlow} (h:Ev t σ x) (k:(x = true -> ws a σ (fun σ1=>ws b σ1 N R) R) ∧ (x = false -> ws c σ (fun σ1=>ws b σ1 N R) R)):ws (sSeq (sIf t a c) b) σ N R:=ws_seq (ws_if (wp_ev h k))
theorem ws_eifn {t:AM Bool} {x:Bool} {a:AM AFlow} (h:Ev t σ x) (k:(x = true -> ws a σ (fun σ1=>ws b σ1 N R) R) ∧ (x = false -> ws b σ N R)):ws (sSeq (sIf t a sNil) b) σ N R:=ws_eif h ⟨k.1,fun e=>ws_nil (k.2 e)⟩
theorem ws_eifr {t:AM Bool} {x:Bool} {m:AM V} (h:Ev t σ x) (k:(x = true -> wp m σ R) ∧ (x = false -> ws b σ N R)):ws (sSeq (sIf t (sSeq (sRet m) sNil) sNil) b) σ N R:=ws_eifn h ⟨fun e=>ws_seq (ws_ret (k.1 e)),k.2⟩
end
theorem run_of {n:Nat} {m:AM AFlow} {vs:List V} {H:List O} {P:V -> List O -> Prop} (h:ws m ⟨vs ++ List.replicate (n - vs.length) .undef,[],H⟩ (fun σ=>P .none σ.heap) (fun u σ=>u.clean = true ∧ P u σ.heap)):∃ v H',runFn n m vs H = some (v,H') ∧ P v H':=by
 obtain ⟨f,σ,e,h⟩:=h
 rcases h with ⟨rfl,h⟩ | ⟨u,rfl,hc,h⟩
 ·exact ⟨_,_,obind_of e rfl,h⟩
 ·exact ⟨_,_,obind_of e (if_pos hc),h⟩
theorem run_ofN {n:Nat} {m:AM AFlow} {vs:List V} {H:List O} {P:V -> List O -> Prop} (h:∀ (N:St -> Prop) (R:V -> St -> Prop),(∀ σ,P .none σ.heap -> N σ) -> (∀ u σ,u.clean = true -> P u σ.heap -> R u σ) -> ws m ⟨vs ++ List.replicate (n - vs.length) .undef,[],H⟩ N R):∃ v H',runFn n m vs H = some (v,H') ∧ P v H' :=
 run_of (h _ _ (fun _ k=>k) fun _ _ k k2=>⟨k,k2⟩)
theorem run_eq {n:Nat} {m:AM AFlow} {vs:List V} {H H':List O} {v:V} (h:ws m ⟨vs ++ List.replicate (n - vs.length) .undef,[],H⟩ (fun σ=>V.none = v ∧ σ.heap = H') (fun u σ=>u.clean = true ∧ u = v ∧ σ.heap = H')):runFn n m vs H = some (v,H'):=by
 obtain ⟨v',H'',e,rfl,rfl⟩:=run_of (P:=fun u H=>u = v ∧ H = H') h
 exact e
theorem ws_stepN {σ:St} {N:St -> Prop} {R:V -> St -> Prop} {a b:AM AFlow} (I:St -> Prop) (h:∀ (M:St -> Prop) (L:V -> St -> Prop),(∀ σ1,I σ1 -> M σ1) -> ws a σ M L) (k:∀ σ1,I σ1 -> ws b σ1 N R):ws (sSeq a b) σ N R:=ws_seq (ws_mono (h I (fun _ _=>False) fun _ q=>q) k fun _ _ q=>q.elim)
section
variable {σ:St} {B:Bool -> St -> Prop} {L:List V -> St -> Prop}
theorem wt_ev {m:AM Bool} {ms:List (AM Bool)} {x:Bool} (h:Ev m σ x) (k:(x = true -> wp (tAnd ms) σ B) ∧ (x = false -> B false σ)):wp (tAnd (m :: ms)) σ B:=wt_cons (wp_ev h k)
theorem wo_ev {m:AM Bool} {ms:List (AM Bool)} {x:Bool} (h:Ev m σ x) (k:(x = true -> B true σ) ∧ (x = false -> wp (tOr ms) σ B)):wp (tOr (m :: ms)) σ B:=wo_cons (wp_ev h k)
theorem wp_cev {m:AM V} {ms:List (AM V)} {v:V} (h:Ev m σ v) (k:wp (mAll ms) σ fun vs σ2=>L (v :: vs) σ2):wp (mAll (m :: ms)) σ L:=wp_cons (wp_ev h k)
end
section
variable {σ:St} {g:List V -> List O -> Option (V × List O)} {ms:List (AM V)} {vs:List V} {N:St -> Prop} {R:V -> St -> Prop} {b:AM AFlow}
theorem wp_ecall {Q:V -> St -> Prop} (h:Ev (mAll ms) σ vs) (c:cleanL vs = true) (q:∃ r H,g vs σ.heap = some (r,H) ∧ Q r ⟨σ.loc,σ.tmp,H⟩):wp (mCall g ms) σ Q:=wp_call (wp_ev h ⟨c,q⟩)
theorem ws_scall {i:Nat} (h:Ev (mAll ms) σ vs) (c:cleanL vs = true) (q:∃ r H,g vs σ.heap = some (r,H) ∧ ws b (St.setLoc ⟨σ.loc,σ.tmp,H⟩ i r) N R):ws (sSeq (sSet i (mCall g ms)) b) σ N R:=ws_seq (ws_set (wp_ecall h c q))
theorem ws_xcall (h:Ev (mAll ms) σ vs) (c:cleanL vs = true) (q:∃ r H,g vs σ.heap = some (r,H) ∧ r = .none ∧ ws b ⟨σ.loc,σ.tmp,H⟩ N R):ws (sSeq (sExpr (mCall g ms)) b) σ N R:=ws_seq (ws_expr (wp_ecall h c q))
theorem ws_tcall {t:V -> AM Unit} (h:Ev (mAll ms) σ vs) (c:cleanL vs = true) (q:∃ r H,g vs σ.heap = some (r,H) ∧ wp (t r) ⟨σ.loc,σ.tmp,H⟩ fun _ σ2=>ws b σ2 N R):ws (sSeq (sSetT t (mCall g ms)) b) σ N R:=ws_seq (ws_setT (wp_ecall h c q))
end
set_option genCtorIdx true in
inductive Op where
 | add | sub | mul | copy | call | const
 deriving DecidableEq
noncomputable def Op.s:Op -> Str
 | .add=>"add" | .sub=>"sub" | .mul=>"mul" | .copy=>"copy" | .call=>"call" | .const=>"const"
set_option genInjectivity true in
set_option genCtorIdx true in
inductive Arg where
 | reg (i:Int)
 | num (n:Int)
 deriving DecidableEq
set_option genCtorIdx true in
inductive Two where
 | add | sub | mul
 deriving DecidableEq
set_option genCtorIdx true in
inductive One where
 | copy | call | const
 deriving DecidableEq
set_option genCtorIdx true in
inductive Row where
 | bin (o:Two) (d:Int) (a b:Arg)
 | un (o:One) (d:Int) (a:Arg)
 deriving DecidableEq
noncomputable def Two.op:Two -> Op
 | .add=>.add | .sub=>.sub | .mul=>.mul
noncomputable def One.op:One -> Op
 | .copy=>.copy | .call=>.call | .const=>.const
noncomputable def Row.op:Row -> Op
 | .bin o _ _ _=>o.op
 | .un o _ _=>o.op
noncomputable def Row.dst:Row -> Int
 | .bin _ d _ _=>d
 | .un _ d _=>d
noncomputable def Row.args:Row -> List Arg
 | .bin _ _ a b=>[a,b]
 | .un _ _ a=>[a]
noncomputable def argV:Arg -> V
 | .reg i=>.tup [.str "r",.int i]
 | .num n=>.tup [.str "k",.int n]
noncomputable def rowV (r:Row):V:=.tup [.str r.op.s,.int r.dst,.lst (r.args.map argV)]
noncomputable def moreV (o:Op):V:=if o = .call then .str "see" else .int 0
noncomputable def stepV (r:Row):V:=.inst 45 [("op",.str r.op.s),("dst",.int r.dst),("args",.lst (r.args.map argV)),("more",moreV r.op),("is_volatile",.bool false),("line",.int 0)]
noncomputable def optV:Option Int -> V
 | some i=>.int i
 | none=>.none
noncomputable def optP:Option PI -> V
 | some p=>pairV p
 | none=>.none
noncomputable def rowsV (rs:List Row):V:=.lst (rs.map rowV)
theorem strOk_op (o:Op):PyData.strOk o.s = true:=by cases o <;> kernel_rfl
theorem strOk_r:PyData.strOk "r" = true:=by kernel_rfl
theorem strOk_k:PyData.strOk "k" = true:=by kernel_rfl
theorem op_inj {a b:Op}:a.s = b.s ↔ a = b:=by
 constructor
 ·intro h
  cases a <;> cases b <;> first | rfl | (exact absurd h (by decide +kernel))
 ·rintro rfl; rfl
theorem rk_ne:¬ (Str.ofString "r" = Str.ofString "k"):=by decide +kernel
theorem kr_ne:¬ (Str.ofString "k" = Str.ofString "r"):=by decide +kernel
structure Emb {α:Type} (f:α -> V) (n:Nat):Prop where
 ok:∀ a,kqdOk n (dat (f a)) = true
 inj:∀ a b,dat (f a) = dat (f b) -> a = b
theorem Emb.up {α:Type} {f:α -> V} {n:Nat} (E:Emb f n):Emb f (n + 1):=⟨fun a=>kqdOk_up _ _ (E.ok a),E.inj⟩
theorem Emb.to {α:Type} {f:α -> V} {n m:Nat} (E:Emb f n) (h:n ≤ m):Emb f m:=by
 induction h with
 | refl=>exact E
 | step _ ih=>exact ih.up
theorem kqd_strOk {n:Nat} {x:Str} (h:PyData.strOk x = true):kqdOk n (.str x) = true:=by cases n <;> simpa [kqdOk] using h
theorem kqd_int {n:Nat} {i:Int}:kqdOk n (.int i) = true:=by cases n <;> simp [kqdOk]
theorem kqd_none {n:Nat}:kqdOk n .none = true:=by cases n <;> simp [kqdOk]
theorem kqd_tuple {n:Nat} {ds:List Dat} (h:∀ d ∈ ds,kqdOk n d = true):kqdOk (n + 1) (.tuple ds) = true:=by simpa [kqdOk] using h
theorem kqd_list {n:Nat} {ds:List Dat} (h:∀ d ∈ ds,kqdOk n d = true):kqdOk (n + 1) (.list ds) = true:=by simpa [kqdOk] using h
theorem datL_map {α:Type} (f:α -> V) (l:List α):datL (l.map f) = l.map fun a=>dat (f a):=by
 induction l with
 | nil=>rfl
 | cons a l ih=>exact congrArg (List.cons (dat (f a))) ih
theorem Emb.list {α:Type} {f:α -> V} {n:Nat} (E:Emb f n):Emb (fun l:List α=>V.lst (l.map f)) (n + 1):=by
 refine ⟨fun l=>?_,fun l m h=>?_⟩
 ·refine kqd_list fun d hd=>?_
  rw [datL_map] at hd
  obtain ⟨a,_,rfl⟩:=List.mem_map.mp hd
  exact E.ok a
 ·have h:=Dat.list.inj h
  rw [datL_map,datL_map] at h
  exact (List.map_inj_right fun a b e=>E.inj a b e).mp h
theorem mem2 {α:Type} {a b d:α} (h:d ∈ [a,b]):d = a ∨ d = b:=(List.mem_cons.mp h).imp_right fun h=>List.mem_singleton.mp h
theorem mem3 {α:Type} {a b e d:α} (h:d ∈ [a,b,e]):d = a ∨ d = b ∨ d = e:=(List.mem_cons.mp h).imp_right mem2
theorem consDat {a b:Dat} {l m:List Dat} (h:a :: l = b :: m):a = b ∧ l = m:=List.cons.inj h
theorem twoDat {a b x y:Dat} (h:Dat.tuple [a,b] = .tuple [x,y]):a = x ∧ b = y:=by
 have h:=consDat (Dat.tuple.inj h)
 exact ⟨h.1,(consDat h.2).1⟩
theorem emb_int:Emb V.int 0:=⟨fun _=>kqd_int,fun a b h=>by cases h; rfl⟩
theorem emb_arg:Emb argV 1:=by
 refine ⟨fun a=>?_,fun a b h=>?_⟩
 ·cases a <;> refine kqd_tuple fun d hd=>?_
  ·rcases mem2 hd with rfl | rfl
   ·exact kqd_strOk strOk_r
   ·exact kqd_int
  ·rcases mem2 hd with rfl | rfl
   ·exact kqd_strOk strOk_k
   ·exact kqd_int
 ·cases a <;> cases b <;> have h:=twoDat h
  ·exact congrArg _ (Dat.int.inj h.2)
  ·exact absurd (Dat.str.inj h.1) rk_ne
  ·exact absurd (Dat.str.inj h.1) kr_ne
  ·exact congrArg _ (Dat.int.inj h.2)
set_option tactic.hygienic true in
theorem row_ext {r q:Row} (h1:r.op = q.op) (h2:r.dst = q.dst) (h3:r.args = q.args):r = q:=by
 cases r <;> cases q <;> simp only [Row.args,List.cons.injEq,and_true,Row.dst] at h2 h3
 ·rename_i o _ _ _ o' _ _ _
  obtain ⟨rfl,rfl⟩:=h3; subst h2
  have:o = o':=by cases o <;> cases o' <;> first | rfl | (cases h1)
  rw [this]
 ·cases h3.2
 ·cases h3.2
 ·rename_i o _ _ o' _ _
  subst h3; subst h2
  have:o = o':=by cases o <;> cases o' <;> first | rfl | (cases h1)
  rw [this]
theorem emb_row:Emb rowV 3:=by
 refine ⟨fun a=>?_,fun a b h=>?_⟩
 ·refine kqd_tuple fun d hd=>?_
  rcases mem3 hd with rfl | rfl | rfl
  ·exact kqd_strOk (strOk_op _)
  ·exact kqd_int
  ·exact emb_arg.list.ok a.args
 ·have h:=consDat (Dat.tuple.inj h)
  have h2:=consDat h.2
  exact row_ext (op_inj.mp (Dat.str.inj h.1)) (Dat.int.inj h2.1) (emb_arg.list.inj _ _ (consDat h2.2).1)
theorem emb_opt:Emb optV 0:=by
 refine ⟨fun a=>?_,fun a b h=>?_⟩
 ·cases a
  ·exact kqd_none
  ·exact kqd_int
 ·cases a <;> cases b <;> first | rfl | (cases h) | skip
  rfl
theorem emb_pair:Emb pairV 1:=by
 refine ⟨fun a=>?_,fun a b h=>?_⟩
 ·refine kqd_tuple fun d hd=>?_
  rcases mem2 hd with rfl | rfl <;> exact kqd_int
 ·have h:=twoDat h
  exact Prod.ext (Dat.int.inj h.1) (Dat.int.inj h.2)
theorem eqV_emb {α:Type} {f:α -> V} {n:Nat} (E:Emb f n) (hn:n ≤ 8) (a b:α) [Decidable (a = b)]:eqV (f a) (f b) = some (decide (a = b)):=by
 unfold eqV
 rw [if_pos ⟨(E.to hn).ok a,(E.to hn).ok b⟩]
 refine congrArg some ?_
 rw [Bool.eq_iff_iff,kqd_eqv 8 _ _ 8 ((E.to hn).ok a) ((E.to hn).ok b),decide_eq_true_iff]
 exact ⟨E.inj a b,fun h=>by rw [h]⟩
theorem eqV_str {x y:Str} (hx:PyData.strOk x = true) (hy:PyData.strOk y = true) [Decidable (x = y)]:eqV (.str x) (.str y) = some (decide (x = y)):=by
 unfold eqV
 rw [if_pos ⟨kqd_strOk hx,kqd_strOk hy⟩]
 refine congrArg some ?_
 rw [Bool.eq_iff_iff,show _ ↔ _ from kqd_eqv 8 (dat (.str x)) (dat (.str y)) 8 (kqd_strOk hx) (kqd_strOk hy),decide_eq_true_iff]
 exact ⟨fun h=>by cases h; rfl,fun h=>by rw [h]⟩
theorem inV_emb {α:Type} {f:α -> V} {n:Nat} (E:Emb f n) (hn:n ≤ 7) (a:α) (l:List α) [Decidable (a ∈ l)]:inV (f a) (l.map f) = some (decide (a ∈ l)):=by
 unfold inV
 have h:(datL (l.map f)).all (kqdOk 7) = true:=by
  rw [datL_map,List.all_eq_true]
  intro d hd
  obtain ⟨b,_,rfl⟩:=List.mem_map.mp hd
  exact (E.to hn).ok b
 rw [if_pos ⟨(E.to (Nat.le_succ_of_le hn)).ok a,h⟩]
 refine congrArg some ?_
 rw [any_in ((E.to (Nat.le_succ_of_le hn)).ok a) (List.all_eq_true.mp h),decide_eq_decide,datL_map,List.mem_map]
 exact ⟨fun q1_=>by obtain ⟨b,hb,e⟩:=q1_; exact E.inj _ _ e ▸ hb,fun h=>⟨a,h,rfl⟩⟩
theorem inV_none (l:List PI):inV .none (l.map pairV) = some false:=by
 unfold inV
 have h:(datL (l.map pairV)).all (kqdOk 7) = true:=by
  rw [datL_map,List.all_eq_true]
  intro d hd
  obtain ⟨b,_,rfl⟩:=List.mem_map.mp hd
  exact (emb_pair.to (by decide)).ok b
 rw [if_pos ⟨kqd_none,h⟩]
 refine congrArg some ?_
 rw [any_in (x:=.none) kqd_none (List.all_eq_true.mp h),decide_eq_false_iff_not,datL_map,List.mem_map]
 rintro ⟨b,_,e⟩
 cases e
section
variable {σ:St}
theorem eq_int (a b:Int):cEq σ (.int a) (.int b) = some (decide (a = b)):=eqV_emb emb_int (by decide) a b
theorem ne_int (a b:Int):cNe σ (.int a) (.int b) = some (!decide (a = b)):=by show (eqV (.int a) (.int b)).map _ = _; rw [show eqV (V.int a) (V.int b) = _ from eqV_emb emb_int (by decide) a b]; rfl
theorem eq_op (o p:Op):cEq σ (.str o.s) (.str p.s) = some (decide (o = p)):=by
 show eqV (.str _) (.str _) = _
 rw [eqV_str (strOk_op o) (strOk_op p)]
 congr 1
 rw [decide_eq_decide]
 exact op_inj
theorem ne_op (o p:Op):cNe σ (.str o.s) (.str p.s) = some (!decide (o = p)):=by
 show (eqV _ _).map _ = _
 rw [show eqV _ _ = _ from eq_op (σ:=σ) o p]; rfl
theorem eq_arg (a b:Arg):cEq σ (argV a) (argV b) = some (decide (a = b)):=by
 have h:∀ a:Arg,(argV a).res σ = argV a:=fun a=>by cases a <;> rfl
 show eqV _ _ = _
 rw [h,h]; exact eqV_emb emb_arg (by decide) a b
noncomputable def Arg.isR:Arg -> Bool
 | .reg _=>true
 | .num _=>false
noncomputable def Arg.k:Arg -> Str
 | .reg _=>"r"
 | .num _=>"k"
noncomputable def Arg.n:Arg -> Int
 | .reg i=>i
 | .num i=>i
theorem arg_eta (a:Arg):argV a = .tup [.str a.k,.int a.n]:=by cases a <;> rfl
theorem eq_k (a:Arg):cEq σ (.str a.k) (.str "k") = some (!a.isR):=by cases a <;> kernel_rfl
theorem eq_r (a:Arg):cEq σ (.str a.k) (.str "r") = some a.isR:=by cases a <;> kernel_rfl
theorem ne_k (a:Arg):cNe σ (.str a.k) (.str "k") = some a.isR:=by cases a <;> kernel_rfl
theorem ne_r (a:Arg):cNe σ (.str a.k) (.str "r") = some (!a.isR):=by cases a <;> kernel_rfl
theorem nin_addsub (o:Op):cNotIn σ (.str o.s) (.tup [.str "add",.str "sub"]) = some (decide (o ≠ .add ∧ o ≠ .sub)):=by cases o <;> kernel_rfl
end
section
variable {σ:St}
theorem attr_inst {C:Addr} {i:Nat} {x:Str} {fs:List (Str × V)} {u:V} (h:fs[i]? = some (x,u)):attrOf C i x σ (.inst C fs) = some u:=by
 show (fs[i]?.bind fun q=>if C = C ∧ q.1 = x then some q.2 else none) = _
 rw [h]
 exact if_pos ⟨rfl,rfl⟩
theorem attr_obj {C:Addr} {i:Nat} {x:Str} {g:Bool} {n:Nat} {fs:List (Str × V)} {u:V} (h0:(σ.sel g)[n]? = some (.inst fs)) (h:fs[i]? = some (x,u)):attrOf C i x σ (.obj g C n) = some u:=by
 show (((σ.sel g)[n]?.bind (instO C)).bind _) = _
 rw [h0]
 exact attr_inst (σ:=σ) h
theorem step_op (r:Row):attrOf 45 0 "op" σ (stepV r) = some (.str r.op.s):=attr_inst rfl
theorem step_dst (r:Row):attrOf 45 1 "dst" σ (stepV r) = some (.int r.dst):=attr_inst rfl
theorem step_args (r:Row):attrOf 45 2 "args" σ (stepV r) = some (.lst (r.args.map argV)):=attr_inst rfl
theorem step_line (r:Row):attrOf 45 5 "line" σ (stepV r) = some (.int 0):=attr_inst rfl
theorem nat_in {k:Nat} (hk:k < 2 ^ 63):0 ≤ (k:Int) ∧ (k:Int) < 2 ^ 63:=⟨Int.natCast_nonneg k,by exact_mod_cast hk⟩
theorem getO_list {vs:List V} {k:Nat} {v:V} (hk:k < 2 ^ 63) (h:vs[k]? = some v):getO (.list vs) (.int k) = some v:=by
 rw [show getO (.list vs) (.int k) = (V.asInt (.int k)).bind (listAt vs) from rfl,show V.asInt (.int (k:Int)) = some (k:Int) from rfl,Option.bind_some,listAt,if_pos (nat_in hk)]
 exact h
theorem idx_tup {vs:List V} {k:Nat} {v:V} (hk:k < 2 ^ 63) (h:vs[k]? = some v):getIdx σ (.tup vs) (.int k) = some v:=by
 rw [show getIdx σ (.tup vs) (.int k) = (V.asInt (.int k)).bind (fun k=>if 0 ≤ k ∧ k < 2 ^ 63 then vs[k.toNat]? else none) from rfl,show V.asInt (.int (k:Int)) = some (k:Int) from rfl,Option.bind_some,if_pos (nat_in hk)]
 exact h
theorem idx_lst {vs:List V} {k:Nat} {v:V} (hk:k < 2 ^ 63) (h:vs[k]? = some v):getIdx σ (.lst vs) (.int k) = some v:=by
 rw [show getIdx σ (.lst vs) (.int k) = ((some (O.list vs)).bind fun o=>getO o (.int k)) from rfl,Option.bind_some]
 exact getO_list hk h
theorem view_ref {g:Bool} {n:Nat} {vs:List V} (h0:(σ.sel g)[n]? = some (.list vs)):V.view σ (.ref g n) = some (.list vs):=by
 exact obind_of h0 rfl
theorem idx_ref {g:Bool} {n:Nat} {vs:List V} {k:Nat} {v:V} (h0:(σ.sel g)[n]? = some (.list vs)) (hk:k < 2 ^ 63) (h:vs[k]? = some v):getIdx σ (.ref g n) (.int k) = some v:=by
 rw [show getIdx σ (.ref g n) (.int k) = (V.view σ (.ref g n)).bind (fun o=>getO o (.int k)) from rfl,view_ref h0,Option.bind_some]
 exact getO_list hk h
theorem idx_t0 {v:V} {vs:List V}:getIdx σ (.tup (v :: vs)) (.int 0) = some v:=idx_tup (k:=0) (by decide) rfl
theorem idx_t1 {v u:V} {vs:List V}:getIdx σ (.tup (v :: u :: vs)) (.int 1) = some u:=idx_tup (k:=1) (by decide) rfl
theorem idx_t2 {v u w:V} {vs:List V}:getIdx σ (.tup (v :: u :: w :: vs)) (.int 2) = some w:=idx_tup (k:=2) (by decide) rfl
theorem idx_l0 {v:V} {vs:List V}:getIdx σ (.lst (v :: vs)) (.int 0) = some v:=idx_lst (k:=0) (by decide) rfl
theorem idx_l1 {v u:V} {vs:List V}:getIdx σ (.lst (v :: u :: vs)) (.int 1) = some u:=idx_lst (k:=1) (by decide) rfl
theorem idx_a0 (a:Arg):getIdx σ (argV a) (.int 0) = some (.str a.k):=by rw [arg_eta]; exact idx_t0
theorem idx_a1 (a:Arg):getIdx σ (argV a) (.int 1) = some (.int a.n):=by rw [arg_eta]; exact idx_t1
theorem idx_p0 (p:PI):getIdx σ (pairV p) (.int 0) = some (.int p.1):=idx_t0
end
theorem eq_reg {σ:St} (a:Arg) (n:Int):cEq σ (argV a) (.tup [.str "r",.int n]) = some (decide (a = .reg n)):=eq_arg a (.reg n)
theorem arg_ok (a:Arg):(argV a).ok = true:=by cases a <;> rfl
theorem opt_ok (a:Option Int):(optV a).ok = true:=by cases a <;> rfl
theorem opt_clean (a:Option Int):(optV a).clean = true:=by cases a <;> rfl
theorem optP_ok (a:Option PI):(optP a).ok = true:=by cases a <;> rfl
theorem arg_clean (a:Arg):(argV a).clean = true:=by cases a <;> rfl
theorem cleanL_map {α:Type} {f:α -> V} (h:∀ a,(f a).clean = true) (l:List α):cleanL (l.map f) = true:=by
 induction l with
 | nil=>rfl
 | cons a l ih=>rw [List.map_cons,cL_cons,h,ih]; rfl
theorem row_clean (r:Row):(rowV r).clean = true:=by
 show (cleanL (r.args.map argV) && true) = true
 rw [cleanL_map arg_clean]; rfl
theorem more_clean (o:Op):(moreV o).clean = true:=by cases o <;> rfl
theorem more_ok (o:Op):(moreV o).ok = true:=by cases o <;> rfl
theorem step_clean (r:Row):(stepV r).clean = true:=by
 show (cleanL (r.args.map argV) && ((moreV r.op).clean && true)) = true
 rw [cleanL_map arg_clean,more_clean]; rfl
theorem rows_clean (rs:List Row):(rowsV rs).clean = true:=cleanL_map row_clean rs
theorem pair_clean (p:PI):(pairV p).clean = true:=rfl
noncomputable def Op.is:Op -> Op -> Bool
 | .add,.add=>true
 | .sub,.sub=>true
 | .mul,.mul=>true
 | .copy,.copy=>true
 | .call,.call=>true
 | .const,.const=>true
 | _,_=>false
theorem Op.is_eq {o p:Op}:o.is p = decide (o = p):=by cases o <;> cases p <;> rfl
noncomputable def Op.sum:Op -> Bool
 | .add=>true
 | .sub=>true
 | _=>false
theorem eqv_add {σ:St} (o:Op):cEq σ (.str o.s) (.str "add") = some (o.is .add):=(eq_op o .add).trans (by rw [Op.is_eq])
theorem eqv_sub {σ:St} (o:Op):cEq σ (.str o.s) (.str "sub") = some (o.is .sub):=(eq_op o .sub).trans (by rw [Op.is_eq])
theorem eqv_mul {σ:St} (o:Op):cEq σ (.str o.s) (.str "mul") = some (o.is .mul):=(eq_op o .mul).trans (by rw [Op.is_eq])
theorem eqv_copy {σ:St} (o:Op):cEq σ (.str o.s) (.str "copy") = some (o.is .copy):=(eq_op o .copy).trans (by rw [Op.is_eq])
theorem eqv_call {σ:St} (o:Op):cEq σ (.str o.s) (.str "call") = some (o.is .call):=(eq_op o .call).trans (by rw [Op.is_eq])
theorem nev_mul {σ:St} (o:Op):cNe σ (.str o.s) (.str "mul") = some (!o.is .mul):=(ne_op o .mul).trans (by rw [Op.is_eq])
theorem nev_copy {σ:St} (o:Op):cNe σ (.str o.s) (.str "copy") = some (!o.is .copy):=(ne_op o .copy).trans (by rw [Op.is_eq])
theorem nev_sum {σ:St} (o:Op):cNotIn σ (.str o.s) (.tup [.str "add",.str "sub"]) = some (!o.sum):=(nin_addsub o).trans (by cases o <;> rfl)
theorem wp_got {σ:St} {i:Nat} {Q:V -> St -> Prop} (h:∃ v,σ.loc[i]? = some v ∧ v.ok = true ∧ Q v σ):wp (mGet i) σ Q:=(by obtain ⟨_,h1,h2,q⟩:=h; exact wp_get h1 h2 q)
theorem wu_tupd {σ:St} {ts:List (V -> AM Unit)} {v:V} {U:Unit -> St -> Prop} (h:∃ vs,v.items σ = some vs ∧ vs.length = ts.length ∧ wp (tEach ts vs) σ U):wp (tTup ts v) σ U:=(by obtain ⟨_,h1,h2,q⟩:=h; exact wu_tup h1 h2 q)
theorem nin_set {σ:St} (k:Int) (ks:List Int):cNotIn σ (.int k) (.set ks) = some (!ks.contains k):=rfl
theorem in_set {σ:St} (k:Int) (ks:List Int):cIn σ (.int k) (.set ks) = some (ks.contains k):=rfl
theorem is_opt {σ:St} (a:Option Int):cIs σ (optV a) .none = some a.isNone:=by cases a <;> rfl
theorem isn_optP {σ:St} (a:Option PI):cIsNot σ (optP a) .none = some a.isSome:=by cases a <;> rfl
theorem ge_int {σ:St} (a b:Int):cGe σ (.int a) (.int b) = some (decide (b ≤ a)):=rfl
theorem gt_int {σ:St} (a b:Int):cGt σ (.int a) (.int b) = some (decide (b < a)):=rfl
theorem lt_int {σ:St} (a b:Int):cLt σ (.int a) (.int b) = some (decide (a < b)):=rfl
theorem wp_new {σ:St} {Q:V -> St -> Prop} {C:Addr} {nl:Nat} {m:AM AFlow} {g:Bool} {ms:List (AM V)}
  (h:wp (mAll ms) σ fun vs σ1=>ws m ⟨(.obj g C (σ1.sel g).length :: vs) ++ List.replicate (nl - (V.obj g C (σ1.sel g).length :: vs).length) .undef,(σ1.alloc g (.inst [])).tmp,(σ1.alloc g (.inst [])).heap⟩ (fun σ2=>Q (.obj g C (σ1.sel g).length) ⟨σ1.loc,σ2.tmp,σ2.heap⟩) fun _ _=>False) :
  wp (mNew C nl m g ms) σ Q:=by
 refine wp_bind (wp_mono h fun vs σ1 h=>?_)
 obtain ⟨f,σ2,e,h⟩:=h
 rcases h with ⟨rfl,h⟩ | ⟨_,_,h⟩
 ·exact ⟨_,_,obind_of e rfl,h⟩
 ·exact h.elim
theorem wu_setAt {σ:St} {U:Unit -> St -> Prop} {x:Str} {g:Bool} {C:Addr} {n:Nat} {v:V} {fs:List (Str × V)} (h:(σ.sel g)[n]? = some (.inst fs)) (hl:fs.length < 100) (hc:g = true -> v.clean = true) (q:U () (σ.put g n (.inst (putF x v fs)))):wp (setAt x (.obj g C n) v) σ U:=by
 exact ⟨(),_,obind_of (obind_of h rfl) (if_pos ⟨hl,hc⟩),q⟩
theorem frz_list {σ:St} {g:Bool} {n:Nat} {vs:List V} (h:(σ.sel g)[n]? = some (.list vs)):frzV (.ref g n) σ = some (.lst vs,σ.put g n .dead):=obind_of h rfl
theorem frz_inst {σ:St} {g:Bool} {C:Addr} {n:Nat} {fs:List (Str × V)} (h:(σ.sel g)[n]? = some (.inst fs)):frzV (.obj g C n) σ = some (.inst C fs,σ.put g n .dead):=by
 have e:(σ.sel g)[n]?.bind (instO C) = some (C,fs):=obind_of h rfl
 exact omap_of e
noncomputable def stepF (op dst args more:V):List (Str × V):=[("op",op),("dst",dst),("args",args),("more",more),("is_volatile",.bool false),("line",.int 0)]
theorem ws_attrT {N:St -> Prop} {R:V -> St -> Prop} {loc:List V} {t:List O} {H:List O} {x:Str} {C:Addr} {i:Nat} {me:AM V} {fs:List (Str × V)} (hi:loc[i]? = some (.obj false C t.length)) (hl:fs.length < 100)
  (h:wp me ⟨loc,t ++ [.inst fs],H⟩ fun v σ1=>σ1 = ⟨loc,t ++ [.inst fs],H⟩ ∧ N ⟨loc,t ++ [.inst (putF x v fs)],H⟩):ws (sAttr C x (mGet i) me) ⟨loc,t ++ [.inst fs],H⟩ N R:=by
 refine ws_attr (wp_mono h fun v σ1 q9_=>?_); obtain ⟨e,h⟩:=q9_
 subst e
 refine wp_get hi rfl ⟨beq_self_eq_true _,wu_setAt (fs:=fs) ?_ hl (fun e=>by cases e) ?_⟩
 ·show (t ++ [O.inst fs])[t.length]? = _
  simp
 ·show N ⟨loc,(t ++ [O.inst fs]).set t.length _,H⟩
  rw [List.set_append_right _ _ (Nat.le_refl _),Nat.sub_self]
  exact h
theorem step_init {N:St -> Prop} {R:V -> St -> Prop} {t H:List O} {a b c d:V} (ha:a.ok = true) (hb:b.ok = true) (hc:c.ok = true) (hd:d.ok = true) (q:∀ loc,N ⟨loc,t ++ [.inst (stepF a b c d)],H⟩) :
  ws m_Step_init ⟨[.obj false 45 t.length,a,b,c,d],t ++ [.inst []],H⟩ N R:=by
 unfold m_Step_init
 refine ws_seq (ws_attrT rfl (of_decide_eq_true rfl) (wp_get rfl ha ⟨rfl,?_⟩))
 refine ws_seq (ws_attrT rfl (of_decide_eq_true rfl) (wp_get rfl hb ⟨rfl,?_⟩))
 refine ws_seq (ws_attrT rfl (of_decide_eq_true rfl) (wp_get rfl hc ⟨rfl,?_⟩))
 refine ws_seq (ws_attrT rfl (of_decide_eq_true rfl) (wp_get rfl hd ⟨rfl,?_⟩))
 refine ws_seq (ws_attrT rfl (of_decide_eq_true rfl) (wp_pure ⟨rfl,?_⟩))
 refine ws_seq (ws_attrT rfl (of_decide_eq_true rfl) (wp_pure ⟨rfl,?_⟩))
 exact ws_nil (q _)
theorem wp_step {σ:St} {Q:V -> St -> Prop} {ms:List (AM V)} (h:wp (mAll ms) σ fun vs σ1=>∃ a b c d,vs = [a,b,c,d] ∧ a.ok = true ∧ b.ok = true ∧ c.ok = true ∧ d.ok = true ∧ Q (.obj false 45 σ1.tmp.length) ⟨σ1.loc,σ1.tmp ++ [.inst (stepF a b c d)],σ1.heap⟩) :
  wp (mNew 45 5 m_Step_init false ms) σ Q:=by
 refine wp_new (wp_mono h fun vs σ1 q9_=>?_); obtain ⟨a,b,c,d,e,ha,hb,hc,hd,q⟩:=q9_
 subst e
 exact step_init ha hb hc hd fun _=>q
theorem wp_stepF {σ:St} {Q:V -> St -> Prop} {ms:List (AM V)} (h:wp (mAll ms) σ fun vs σ1=>∃ a b c d,vs = [a,b,c,d] ∧ a.ok = true ∧ b.ok = true ∧ c.ok = true ∧ d.ok = true ∧ Q (.inst 45 (stepF a b c d)) ⟨σ1.loc,σ1.tmp ++ [.dead],σ1.heap⟩) :
  wp (mFrz (mNew 45 5 m_Step_init false ms)) σ Q:=by
 refine wp_frz (wp_step (wp_mono h fun vs σ1 q9_=>?_))
 obtain ⟨a,b,c,d,e,ha,hb,hc,hd,q⟩:=q9_
 refine ⟨a,b,c,d,e,ha,hb,hc,hd,_,_,?_,q⟩
 have:(St.sel ⟨σ1.loc,σ1.tmp ++ [O.inst (stepF a b c d)],σ1.heap⟩ false)[σ1.tmp.length]? = some (.inst (stepF a b c d)):=by
  show (σ1.tmp ++ [O.inst (stepF a b c d)])[σ1.tmp.length]? = _
  simp
 refine (frz_inst this).trans ?_
 show some (_,St.mk σ1.loc ((σ1.tmp ++ [O.inst (stepF a b c d)]).set σ1.tmp.length .dead) σ1.heap) = _
 rw [List.set_append_right _ _ (Nat.le_refl _),Nat.sub_self]
 rfl
theorem eqs_rr {σ:St}:cEq σ (.str "r") (.str "r") = some true:=eq_r (σ:=σ) (.reg 0)
theorem eqs_kr {σ:St}:cEq σ (.str "k") (.str "r") = some false:=eq_r (σ:=σ) (.num 0)
theorem ansX {α:Type} {f:Option α} {v:α} (h:f = some v) {Q:α -> Prop} (q:Q v):∃ r,f = some r ∧ Q r:=⟨v,h,q⟩
theorem op_add (a b:Int):opAdd (.int a) (.int b) = some (.int (a + b)):=rfl
theorem op_sub (a b:Int):opSub (.int a) (.int b) = some (.int (a - b)):=rfl
theorem op_and (a:Int):opAnd (.int a) (.int 4294967295) = some (.int (a % 4294967296)):=by
 rfl
theorem op_mod {a b:Int} (h:0 < b):opMod (.int a) (.int b) = some (.int (a % b)):=if_pos h
theorem op_modM (a:Int):opMod (.int a) (.int 4294967296) = some (.int (a % 4294967296)):=op_mod (by decide)
theorem op_mod9 (a:Int):opMod (.int a) (.int 1009) = some (.int (a % 1009)):=op_mod (by decide)
theorem listOf_lst {σ:St} (vs:List V):listOf? σ (.lst vs) = some vs:=rfl
theorem truth_bool {σ:St} (b:Bool):V.truth σ (.bool b) = some b:=rfl
theorem idx_b0 {σ:St} {f:Arg -> V} {o:Two} {d:Int} {a b:Arg}:getIdx σ (.lst ((Row.bin o d a b).args.map f)) (.int 0) = some (f a):=idx_l0
theorem idx_b1 {σ:St} {f:Arg -> V} {o:Two} {d:Int} {a b:Arg}:getIdx σ (.lst ((Row.bin o d a b).args.map f)) (.int 1) = some (f b):=idx_l1
theorem idx_u0 {σ:St} {f:Arg -> V} {o:One} {d:Int} {a:Arg}:getIdx σ (.lst ((Row.un o d a).args.map f)) (.int 0) = some (f a):=idx_l0
noncomputable def getL (vs:List V) (i:Int):Option V:=getO (.list vs) (.int i)
theorem getL_of {vs:List V} {k:Nat} {v:V} (hk:k < 2 ^ 63) (h:vs[k]? = some v):getL vs (k:Int) = some v:=getO_list hk h
theorem getL_last {vs:List V} {v:V} (h0:0 < vs.length) (hk:vs.length < 1000000) (h:vs[vs.length - 1]? = some v):getL vs (-1) = some v:=by
 rw [show getL vs (-1) = (V.asInt (.int (-1))).bind (listAt vs) from rfl,show V.asInt (.int (-1)) = some (-1) from rfl,Option.bind_some,listAt]
 rw [if_neg (fun z=>absurd z.1 (by decide)),if_pos ⟨by lia,by decide,by decide⟩]
 have:((-1:Int) + vs.length).toNat = vs.length - 1:=by lia
 rw [this]
 exact h
theorem getL_idx {σ:St} {vs:List V} {i:Int} {v:V} (h:getL vs i = some v):getIdx σ (.lst vs) (.int i) = some v:=by
 rw [show getIdx σ (.lst vs) (.int i) = ((some (O.list vs)).bind fun o=>getO o (.int i)) from rfl,Option.bind_some]
 exact h
theorem idx_lstX {σ:St} {vs:List V} {i:Int} {Q:V -> Prop} (h:∃ v,getL vs i = some v ∧ Q v):∃ v,getIdx σ (.lst vs) (.int i) = some v ∧ Q v:=(by obtain ⟨v,e,q⟩:=h; exact ⟨v,getL_idx e,q⟩)
theorem callX {f:Option (V × List O)} {v:V} {H':List O} {Q:V -> List O -> Prop} (e:f = some (v,H')) (q:Q v H'):∃ r H'',f = some (r,H'') ∧ Q r H'':=⟨v,H',e,q⟩
theorem cl_step (l:List Row):cleanL (l.map stepV) = true:=cleanL_map step_clean l
theorem cl_rows (l:List (List Row)):cleanL (l.map rowsV) = true:=cleanL_map rows_clean l
theorem cl_int (l:List Int):cleanL (l.map V.int) = true:=cleanL_map (fun _=>rfl) l
theorem cl_pair (l:List PI):cleanL (l.map pairV) = true:=cleanL_map pair_clean l
theorem cl_opt (l:List (Option Int)):cleanL (l.map optV) = true:=cleanL_map opt_clean l
theorem exInt {a:Int} {Q:Int -> Prop} (q:Q a):∃ i,V.int a = V.int i ∧ Q i:=⟨a,rfl,q⟩
theorem exLst {a:List V} {Q:List V -> Prop} (q:Q a):∃ i,V.lst a = V.lst i ∧ Q i:=⟨a,rfl,q⟩
theorem exRows {rs:List Row} {Q:List V -> Prop} (q:Q (rs.map rowV)):∃ i,rowsV rs = V.lst i ∧ Q i:=⟨_,rfl,q⟩
theorem listOf_rows {σ:St} (rs:List Row):listOf? σ (rowsV rs) = some (rs.map rowV):=rfl
theorem exTup {a:List V} {Q:List V -> Prop} (q:Q a):∃ i,V.tup a = V.tup i ∧ Q i:=⟨a,rfl,q⟩
theorem exRef {g:Bool} {n:Nat} {Q:Bool -> Nat -> Prop} (q:Q g n):∃ g' n',V.ref g n = V.ref g' n' ∧ Q g' n':=⟨g,n,rfl,q⟩
section
variable {σ:St} {U:Unit -> St -> Prop}
theorem wu_setSubL {g:Bool} {n:Nat} {vs:List V} {i:Int} {v:V} (h:(σ.sel g)[n]? = some (.list vs)) (h0:0 ≤ i) (h1:i < vs.length) (hl:vs.length < lid) (hc:g = true -> v.clean = true) (q:U () (σ.put g n (.list (vs.set i.toNat v)))):wp (setSub (.ref g n) (.int i) v) σ U:=by
 refine ⟨(),_,?_,q⟩
 show (((σ.sel g)[n]?.map fun o=>(g,n,o)).bind _) = _
 rw [h]
 exact if_pos ⟨h0,h1,hl,hc⟩
theorem wu_setSubI {g:Bool} {n:Nat} {es:List (Int × V)} {i:Int} {v:V} (h:(σ.sel g)[n]? = some (.dctI es)) (hl:es.length < lid) (hc:g = true -> v.clean = true) (q:U () (σ.put g n (.dctI (putK es i v)))):wp (setSub (.ref g n) (.int i) v) σ U:=by
 refine ⟨(),_,?_,q⟩
 show (((σ.sel g)[n]?.map fun o=>(g,n,o)).bind _) = _
 rw [h]
 exact if_pos ⟨hl,hc⟩
theorem wu_setSubT {g:Bool} {n:Nat} {es:List (List Int × V)} {k:V} {ks:List Int} {v:V} (hk:k.key = some ks) (h:(σ.sel g)[n]? = some (.dctT es)) (hl:es.length < lid) (hc:g = true -> v.clean = true) (q:U () (σ.put g n (.dctT (putK es ks v)))):wp (setSub (.ref g n) k v) σ U:=by
 refine ⟨(),_,?_,q⟩
 show (((σ.sel g)[n]?.map fun o=>(g,n,o)).bind _) = _
 rw [h]
 show k.key.bind _ = _
 rw [hk]
 exact if_pos ⟨hl,hc⟩
end
section
variable {σ:St} {Q:V -> St -> Prop}
theorem wp_app {o e:AM V} (h:wp o σ fun x σ1=>∃ g n,x = .ref g n ∧ (∃ us,(σ1.sel g)[n]? = some (.list us)) ∧ wp e σ1 fun v σ2=>∃ vs,(σ2.sel g)[n]? = some (.list vs) ∧ vs.length < lid ∧ (g = true -> v.clean = true) ∧ Q .none (σ2.put g n (.list (vs ++ [v])))):wp (mApp o e) σ Q:=by
 refine wp_bind (wp_mono h fun x σ1 q9_=>?_); obtain ⟨g,n,ex,⟨us,eu⟩,h⟩:=q9_
 subst ex
 refine wp_bind ⟨us,σ1,ownF_eq eu rfl,?_⟩
 refine wp_bind (wp_mono h fun v σ2 q9_=>?_); obtain ⟨vs,ev,hl,hc,q⟩:=q9_
 refine wp_bind ⟨vs,σ2,ownF_eq ev rfl,?_⟩
 dsimp only
 rw [if_pos ⟨hl,hc⟩]
 exact wp_bind ⟨(),_,rfl,wp_pure q⟩
theorem wp_ext {o e:AM V} (h:wp o σ fun x σ1=>∃ g n,x = .ref g n ∧ (∃ us,(σ1.sel g)[n]? = some (.list us)) ∧ wp e σ1 fun v σ2=>∃ vs ws,(σ2.sel g)[n]? = some (.list vs) ∧ v.view σ2 = some (.list ws) ∧ vs.length < lid ∧ ws.length < lid ∧ (g = true -> cleanL ws = true) ∧ Q .none (σ2.put g n (.list (vs ++ ws)))):wp (mExt o e) σ Q:=by
 refine wp_bind (wp_mono h fun x σ1 q9_=>?_); obtain ⟨g,n,ex,⟨us,eu⟩,h⟩:=q9_
 subst ex
 refine wp_bind ⟨us,σ1,ownF_eq eu rfl,?_⟩
 refine wp_bind (wp_mono h fun v σ2 q9_=>?_); obtain ⟨vs,ws,ev,ew,hl,hl2,hc,q⟩:=q9_
 refine wp_bind ⟨vs,σ2,ownF_eq ev rfl,?_⟩
 exact ⟨.none,σ2.put g n (.list (vs ++ ws)),obind_of (obind_of ew rfl) (if_pos ⟨hl,hl2,hc⟩),q⟩
theorem wp_get2 {o k e:AM V} (h:wp o σ fun x σ1=>∃ g n,x = .ref g n ∧ (∃ us,(σ1.sel g)[n]? = some (.dctI us)) ∧ wp k σ1 fun i σ2=>wp e σ2 fun d σ3=>∃ es j r,(σ3.sel g)[n]? = some (.dctI es) ∧ i = .int j ∧ (getK es j).getD d = r ∧ Q r σ3):wp (mGet2 o k e) σ Q:=by
 refine wp_bind (wp_mono h fun x σ1 q9_=>?_); obtain ⟨g,n,ex,⟨us,eu⟩,h⟩:=q9_
 subst ex
 refine wp_bind ⟨us,σ1,ownF_eq eu rfl,?_⟩
 refine wp_bind (wp_mono h fun i σ2 h=>wp_bind (wp_mono h fun d σ3 q9_=>?_)); obtain ⟨es,j,r,e3,ei,er,q⟩:=q9_
 subst ei; subst er
 exact wp_bind ⟨es,σ3,ownF_eq e3 rfl,wp_pure q⟩
theorem wp_and3 {m1 m2 m3:AM V} (h:wp m1 σ fun v1 σ1=>wp m2 σ1 fun v2 σ2=>wp m3 σ2 fun v3 σ3=>∃ a b c,v1 = .bool a ∧ v2 = .bool b ∧ v3 = .bool c ∧ σ1 = σ ∧ σ2 = σ ∧ σ3 = σ ∧ Q (.bool (a && (b && c))) σ):wp (mAnd [m1,m2,m3]) σ Q:=by
 obtain ⟨v1,σ1,e1,v2,σ2,e2,v3,σ3,e3,a,b,c,rfl,rfl,rfl,rfl,rfl,rfl,q⟩:=h
 refine wa_cons ⟨_,_,e1,_,rfl,fun ha=>wa_cons ⟨_,_,e2,_,rfl,fun hb=>wa_one ⟨_,_,e3,?_⟩,fun hb=>?_⟩,fun ha=>?_⟩
 ·subst ha; subst hb; exact q
 ·subst ha; subst hb; exact q
 ·subst ha; exact q
theorem wp_and2 {m1 m2:AM V} (h:wp m1 σ fun v1 σ1=>wp m2 σ1 fun v2 σ2=>∃ a b,v1 = .bool a ∧ v2 = .bool b ∧ σ1 = σ ∧ σ2 = σ ∧ Q (.bool (a && b)) σ):wp (mAnd [m1,m2]) σ Q:=by
 obtain ⟨v1,σ1,e1,v2,σ2,e2,a,b,rfl,rfl,rfl,rfl,q⟩:=h
 refine wa_cons ⟨_,_,e1,_,rfl,fun ha=>wa_one ⟨_,_,e2,?_⟩,fun ha=>?_⟩
 ·subst ha; exact q
 ·subst ha; exact q
theorem wp_setAdd {o e:AM V} (h:wp o σ fun x σ1=>∃ g n,x = .ref g n ∧ (∃ us,(σ1.sel g)[n]? = some (.set us)) ∧ wp e σ1 fun v σ2=>∃ ks k,(σ2.sel g)[n]? = some (.set ks) ∧ v = .int k ∧ ks.length < 1000 ∧ Q .none (σ2.put g n (.set (step_dedup ks k)))):wp (mSetAdd o e) σ Q:=by
 refine wp_bind (wp_mono h fun x σ1 q9_=>?_); obtain ⟨g,n,ex,⟨us,eu⟩,h⟩:=q9_
 subst ex
 refine wp_bind ⟨us,σ1,ownF_eq eu rfl,?_⟩
 refine wp_bind (wp_mono h fun v σ2 q9_=>?_); obtain ⟨ks,k,ek,ev,hl,q⟩:=q9_
 subst ev
 exact ⟨.none,σ2.put g n (.set (step_dedup ks k)),obind_of rfl (obind_of (omap_of ek) (obind_of rfl (if_pos hl))),q⟩
end
theorem wu_subI {σ:St} {U:Unit -> St -> Prop} {g:Bool} {n:Nat} {i:Int} {v:V} (h:∃ es,(σ.sel g)[n]? = some (.dctI es) ∧ es.length < lid ∧ (g = true -> v.clean = true) ∧ U () (σ.put g n (.dctI (putK es i v)))):wp (setSub (.ref g n) (.int i) v) σ U:=(by obtain ⟨_,h1,h2,h3,q⟩:=h; exact wu_setSubI h1 h2 h3 q)
theorem wu_subL {σ:St} {U:Unit -> St -> Prop} {g:Bool} {n:Nat} {i:Int} {v:V} (h:∃ vs,(σ.sel g)[n]? = some (.list vs) ∧ vs.length < lid ∧ (0 ≤ i ∧ i < vs.length) ∧ (g = true -> v.clean = true) ∧ U () (σ.put g n (.list (vs.set i.toNat v)))):wp (setSub (.ref g n) (.int i) v) σ U:=(by obtain ⟨_,h1,h2,h4,h3,q⟩:=h; exact wu_setSubL h1 h4.1 h4.2 h2 h3 q)
theorem wu_subT {σ:St} {U:Unit -> St -> Prop} {g:Bool} {n:Nat} {k:V} {v:V} (h:∃ es,(σ.sel g)[n]? = some (.dctT es) ∧ es.length < lid ∧ (g = true -> v.clean = true) ∧ ∃ ks,k.key = some ks ∧ U () (σ.put g n (.dctT (putK es ks v)))):wp (setSub (.ref g n) k v) σ U:=(by obtain ⟨_,h1,h2,h3,_,hk,q⟩:=h; exact wu_setSubT hk h1 h2 h3 q)
theorem getK_map {κ α β:Type} [DecidableEq κ] (f:α -> β) (es:List (κ × α)) (k:κ):getK (es.map fun e=>(e.1,f e.2)) k = (getK es k).map f:=by
 unfold getK
 induction es with
 | nil=>rfl
 | cons e es ih =>
  rw [List.map_cons,List.find?_cons,List.find?_cons]
  by_cases h:e.1 = k
  ·simp [h]
  ·simp only [h,decide_false]; exact ih
theorem putK_map {κ α β:Type} [DecidableEq κ] (f:α -> β) (es:List (κ × α)) (k:κ) (v:α):putK (es.map fun e=>(e.1,f e.2)) k (f v) = (putK es k v).map fun e=>(e.1,f e.2):=by
 unfold putK
 have:(es.map fun e=>(e.1,f e.2)).any (fun e=>decide (e.1 = k)) = es.any fun e=>decide (e.1 = k):=by simp [List.any_map,Function.comp_def]
 rw [this]
 split
 ·rw [List.map_map,List.map_map]
  apply List.map_congr_left
  intro e _
  dsimp only [Function.comp]
  split <;> rfl
 ·simp
theorem putK_len {κ α:Type} [DecidableEq κ] (es:List (κ × α)) (k:κ) (v:α):(putK es k v).length ≤ es.length + 1:=by
 unfold putK
 split
 ·rw [List.length_map]; lia
 ·rw [List.length_append]; exact Nat.le_refl _
theorem getK_putK {κ α:Type} [DecidableEq κ] (es:List (κ × α)) (k j:κ) (v:α):getK (putK es k v) j = if k = j then some v else getK es j:=by
 unfold putK
 split
 ·rename_i h
  unfold getK
  induction es with
  | nil=>cases h
  | cons e es ih =>
   rw [List.map_cons,List.find?_cons,List.find?_cons]
   by_cases he:e.1 = k
   ·rw [if_pos he]
    by_cases hj:k = j
    ·subst hj; simp [he]
    ·rw [if_neg hj]
     have hj':¬ e.1 = j:=fun z=>hj (he.symm.trans z)
     simp only [hj',decide_false]
     by_cases ha:es.any (fun e=>decide (e.1 = k)) = true
     ·rw [ih ha,if_neg hj]
     ·congr 1
      have:es.map (fun e=>if e.1 = k then (e.1,v) else e) = es:=by
       rw [List.map_congr_left (g:=id),List.map_id]
       intro x hx
       have:¬ x.1 = k:=fun z=>ha (List.any_eq_true.mpr ⟨x,hx,by simp [z]⟩)
       rw [if_neg this]; rfl
      rw [this]
   ·rw [if_neg he]
    have ha:es.any (fun e=>decide (e.1 = k)) = true:=by
     rw [List.any_cons] at h
     simpa [he] using h
    by_cases hj:e.1 = j
    ·have:¬ k = j:=fun z=>he (hj.trans z.symm)
     simp [hj,this]
    ·simp only [hj,decide_false]
     exact ih ha
 ·rename_i h
  unfold getK
  rw [List.find?_append]
  by_cases hj:k = j
  ·subst hj
   have:es.find? (fun e=>decide (e.1 = k)) = none:=by
    rw [List.find?_eq_none]
    intro x hx z
    exact h (List.any_eq_true.mpr ⟨x,hx,z⟩)
   rw [this]; simp
  ·simp [hj]
theorem iteT {b:Bool} {p q:Prop} (hb:b = true) (h:p):(b = true -> p) ∧ (b = false -> q):=⟨fun _=>h,fun e=>by rw [hb] at e; cases e⟩
theorem iteF {b:Bool} {p q:Prop} (hb:b = false) (h:q):(b = true -> p) ∧ (b = false -> q):=⟨fun e=>(by rw [hb] at e; cases e),fun _=>h⟩
noncomputable abbrev Shape:=Int × Int × Int
noncomputable def shapeV (s:Shape):V:=.tup [.int s.1,.int s.2.1,.int s.2.2]
theorem getD_int {l:List (Int × Int)} {j d:Int}:(getK (l.map fun e=>(e.1,V.int e.2)) j).getD (.int d) = .int ((getK l j).getD d):=by
 rw [getK_map]; cases getK l j <;> rfl
theorem getD_shape {l:List (Int × Shape)} {j:Int} {s:Shape}:(getK (l.map fun e=>(e.1,shapeV e.2)) j).getD (shapeV s) = shapeV ((getK l j).getD s):=by
 rw [getK_map]; cases getK l j <;> rfl
theorem idx_s0 {σ:St} (s:Shape):getIdx σ (shapeV s) (.int 0) = some (.int s.1):=idx_t0
theorem idx_s1 {σ:St} (s:Shape):getIdx σ (shapeV s) (.int 1) = some (.int s.2.1):=idx_t1
theorem idx_s2 {σ:St} (s:Shape):getIdx σ (shapeV s) (.int 2) = some (.int s.2.2):=idx_t2
theorem bF {p:Prop} (h:(false:Bool) = true):p:=by cases h
theorem bT {p:Prop} (h:(true:Bool) = false):p:=by cases h
theorem iteNT {b:Bool} {p q:Prop} (hb:b = true) (h:q):((!b) = true -> p) ∧ ((!b) = false -> q):=iteF (by rw [hb]; rfl) h
theorem iteNF {b:Bool} {p q:Prop} (hb:b = false) (h:p):((!b) = true -> p) ∧ ((!b) = false -> q):=iteT (by rw [hb]; rfl) h
theorem iteN {b:Bool} {p q:Prop} (h1:b = false -> p) (h2:b = true -> q):((!b) = true -> p) ∧ ((!b) = false -> q):=⟨fun e=>h1 (by simpa using e),fun e=>h2 (by simpa using e)⟩
theorem iteB {b:Bool} {p q:Prop} (h1:b = true -> p) (h2:b = false -> q):(b = true -> p) ∧ (b = false -> q):=⟨h1,h2⟩
theorem idx_row1 {σ:St} (r:Row):getIdx σ (rowV r) (.int 1) = some (.int r.dst):=idx_t1
theorem rows_idx {σ:St} {L:List Row} {i:Int} {v:V} (h:getL (L.map rowV) i = some v):getIdx σ (rowsV L) (.int i) = some v:=getL_idx h
theorem rows_getL {L:List Row} {k:Nat} {r:Row} (h:L[k]? = some r) (hk:k < 1000000):getL (L.map rowV) (k:Nat) = some (rowV r):=getL_of (by omega) (by rw [List.getElem?_map,h]; rfl)
set_option hygiene false in
local macro_rules | `(tactic| walk_at "m f")=>`(tactic| with_reducible first
 | apply step_op | apply step_dst | apply step_args | apply step_line | apply idx_t0 | apply idx_t1 | apply idx_t2 | apply idx_l0 | apply idx_l1 | apply idx_b0 | apply idx_b1 | apply idx_u0 | apply idx_a0 | apply idx_a1 | apply idx_p0 | apply idx_s0 | apply idx_s1 | apply idx_s2 | apply eq_int | apply ne_int | apply ge_int | apply gt_int | apply lt_int | apply nin_set | apply in_set | apply is_opt | apply isn_optP | apply eqs_rr | apply eqs_kr | apply eqv_add | apply eqv_sub | apply eqv_mul | apply eqv_copy | apply eqv_call | apply nev_mul | apply nev_copy | apply nev_sum | apply eq_k | apply eq_r | apply ne_k | apply ne_r | apply eq_reg | apply eq_arg | apply op_add | apply op_sub | apply op_and | apply op_modM | apply op_mod9 | apply listOf_lst | apply listOf_rows | apply truth_bool | (apply getL_idx; assumption) | (apply rows_idx; assumption) | apply idx_row1 | assumption)
set_option hygiene false in
local macro_rules | `(tactic| walk_at "m c")=>`(tactic| (repeat' (first | exact rfl | (with_reducible first | apply clL_cons | apply clL_lst | apply clL_tup | apply step_clean | apply row_clean | apply rows_clean | apply arg_clean | apply opt_clean | (apply cleanL_map; intro)))); done)
set_option hygiene false in
local macro_rules | `(tactic| walk_at "m e")=>`(tactic| repeat' (first
 | (with_reducible first | apply ev_pure | apply ev_nil | apply ev_cons | apply ev_attr | apply ev_idx | apply ev_op | apply ev_tcmp | apply ev_mcmp | apply ev_neg | apply ev_val | apply ev_items)
 | ((with_reducible apply ev_get); (focus exact rfl); (focus (first | exact rfl | exact arg_ok _ | exact opt_ok _ | exact optP_ok _ | exact more_ok _ | assumption)))
 | (with_reducible first | apply ev_tup | apply ev_lst)
 | ((with_reducible show _ < lid); exact of_decide_eq_true rfl)
 | (walk_at "m f")))
set_option hygiene false in
local macro_rules | `(tactic| walk_at "m go")=>`(tactic| repeat' (first
 | ((with_reducible first | apply ws_scall | apply ws_xcall | apply ws_tcall | apply wp_ecall); (focus (walk_at "m e"; done)); (focus (walk_at "m c")))
 | ((with_reducible first | apply wt_ev | apply wo_ev); (focus (walk_at "m e"; done)))
 | ((with_reducible first | apply wp_ev | apply ws_eset | apply ws_eret | apply ws_eifr | apply ws_eifn | apply ws_eif); (focus (walk_at "m e"; done)))
 | ((with_reducible apply wp_cev); (focus (walk_at "m e"; done)))
 | ((with_reducible apply wp_got); refine ⟨_,rfl,?_,?_⟩; (focus (first | exact rfl | exact arg_ok _ | exact opt_ok _ | exact optP_ok _ | exact more_ok _ | assumption)))
 | (with_reducible first
  | apply ws_seq
  | apply wp_pure
  | apply wp_cons
  | apply wp_nil
  | apply wp_tup
  | apply wp_lstF
  | apply wp_idx
  | (apply wp_attr (C:=45))
  | apply wp_op
  | apply wp_tcmp
  | apply wp_mcmp
  | apply ws_set
  | apply ws_if
  | apply ws_ret
  | apply ws_nil
  | apply wt_cons
  | apply wt_nil
  | apply wo_cons
  | apply wo_nil
  | apply wt_not
  | apply wt_val
  | apply wp_if
  | apply ws_expr
  | apply ws_setT
  | apply ws_swap
  | apply ws_aug
  | apply wp_call
  | apply ws_for
  | apply wu_name
  | apply wp_items
  | apply wp_len
  | apply wp_compE
  | apply wp_outF
  | apply wp_comp
  | apply wp_setOf
  | apply wp_sorted
  | apply wp_int
  | apply wp_listC
  | apply wp_enum
  | apply wp_zip
  | apply wp_range1
  | apply wp_range2
  | apply ws_sub
  | apply wp_stepF
  | apply wp_frz
  | apply wp_app
  | apply wp_ext
  | apply wp_get2
  | apply wp_setAdd
  | apply wp_alloc
  | apply wp_lstO
  | apply wp_addL
  | apply wp_frzL
  | apply wp_slice
  | apply wp_pnone
  | apply wp_psome
  | apply exRef)
 | ((with_reducible show wp (tEach _ _) _ _); first | refine wu_nil ?_ | refine wu_cons ?_)
 | ((with_reducible apply wu_tupd); refine ⟨_,rfl,rfl,?_⟩)
 | ((with_reducible show ∃ _,_ ∧ _); first
  | ((with_reducible apply ansX); (focus (walk_at "m f")))
  | (with_reducible first | apply exInt | apply exLst | apply exRows | apply exTup)
  | ((with_reducible show ∃ _,_ = some (O.list _) ∧ _); refine ⟨_,rfl,?_⟩)
  | (with_reducible apply idx_lstX))
 | ((with_reducible show ∃ _ _,V.lst _ = V.lst [_,_] ∧ _); refine ⟨_,_,rfl,?_⟩)
 | ((with_reducible show (_ = true -> _) ∧ (_ = false -> _)); first
  | (with_reducible first | refine iteF rfl ?_ | refine iteT rfl ?_ | refine iteT (by assumption) ?_ | refine iteF (by assumption) ?_)
  | ((with_reducible first | show ((!Op.is _ _) = true -> _) ∧ _ | show ((!Arg.isR _) = true -> _) ∧ _ | show ((!Op.sum _) = true -> _) ∧ _); first
   | refine iteF rfl ?_
   | refine iteT rfl ?_
   | (refine iteNT (by assumption) ?_)
   | (refine iteNF (by assumption) ?_)
   | (refine iteN (fun mh=>?_) (fun mh=>?_)))
  | ((with_reducible first | show (Op.is _ _ = true -> _) ∧ _ | show (Arg.isR _ = true -> _) ∧ _ | show (Op.sum _ = true -> _) ∧ _ | show ((Arg.isR _ == Arg.isR _) = true -> _) ∧ _ | show (Option.isSome _ = true -> _) ∧ _ | show (Option.isNone _ = true -> _) ∧ _); first
   | refine iteF rfl ?_
   | refine iteT rfl ?_)
  | (with_reducible refine iteB (fun mh=>?_) (fun mh=>?_)))
 | ((with_reducible first | show (_ = true -> cleanL _ = true) ∧ _ | show (_ = true -> V.clean _ = true) ∧ _); first | refine ⟨(fun mh=>bF mh),?_⟩ | (refine ⟨fun _=>?_,?_⟩; (focus (walk_at "m c"))))
 | ((with_reducible show List.length _ = List.length _ ∧ _); refine ⟨rfl,?_⟩)
 | ((with_reducible show _ = _ ∧ _); first | exact ⟨rfl,rfl⟩ | exact ⟨rfl,rfl,rfl⟩ | ((with_reducible show V.none = V.none ∧ _); refine ⟨rfl,?_⟩))
 | ((with_reducible show _ < lid ∧ _); first | refine ⟨of_decide_eq_true rfl,?_⟩ | (refine ⟨?_,?_⟩; (focus (simp only [List.length_map,List.length_append,List.length_cons,List.length_nil,List.length_range,lid]; omega; done))))
 | ((with_reducible show (∃ _,_) ∧ _); refine ⟨⟨_,rfl⟩,?_⟩)
 | ((with_reducible show ∃ _ _,listOf? _ _ = some _ ∧ listOf? _ _ = some _ ∧ _); refine ⟨_,_,rfl,rfl,?_⟩)
 | ((with_reducible show ∃ _ _ _,_ = some (O.dctI _) ∧ _ ∧ _); first | refine ⟨_,_,_,rfl,rfl,getD_int,?_⟩ | refine ⟨_,_,_,rfl,rfl,getD_shape (s:=(-1,0,0)),?_⟩)
 | ((with_reducible show ∃ _ _,_ = some (O.list _) ∧ _ = some (O.list _) ∧ _); refine ⟨_,_,rfl,rfl,?_⟩)
 | ((with_reducible show ∃ _ _,_ = some (O.set _) ∧ _ ∧ _); refine ⟨_,_,rfl,rfl,?_⟩)
 | ((with_reducible apply wu_subI); refine ⟨_,rfl,?_⟩)
 | ((with_reducible apply wu_subL); refine ⟨_,rfl,?_⟩)
 | ((with_reducible apply wu_subT); refine ⟨_,rfl,?_⟩)
 | ((with_reducible show cleanL _ = true ∧ _); refine ⟨?_,?_⟩; (focus (walk_at "m c")))))
noncomputable def sumWith (r:Row) (n:Int):Option Int:=match r with
 | .bin .add _ a b=>if a = .reg n ∧ b.isR = false then some b.n else if b = .reg n ∧ a.isR = false then some a.n else none
 | .bin .sub _ a b=>if a = .reg n ∧ b.isR = false then some ((-b.n) % 4294967296) else none
 | _=>none
theorem sw_add {d n:Int} {a b:Arg}:sumWith (.bin .add d a b) n = if a = .reg n ∧ b.isR = false then some b.n else if b = .reg n ∧ a.isR = false then some a.n else none:=rfl
theorem sw_sub {d n:Int} {a b:Arg}:sumWith (.bin .sub d a b) n = if a = .reg n ∧ b.isR = false then some ((-b.n) % 4294967296) else none:=rfl
theorem g_sum_with_is (r:Row) (n:Int) (H:List O):g_sum_with [stepV r,.int n] H = some (optV (sumWith r n),H):=by
 have go:∀ (d:Int) (o:Two) (a b:Arg) (x:Option Int),ws m_sum_with ⟨[stepV (.bin o d a b),.int n] ++ List.replicate 3 .undef,[],H⟩ (fun σ=>V.none = optV x ∧ σ.heap = H) (fun u σ=>u.clean = true ∧ u = optV x ∧ σ.heap = H) -> g_sum_with [stepV (.bin o d a b),.int n] H = some (optV x,H):=fun d o a b x h=>run_eq h
 cases r with
 | un o d a=>cases o <;> kernel_rfl
 | bin o d a b=>cases o with
  | mul=>kernel_rfl
  | sub=>cases a with
   | num m=>cases b <;> kernel_rfl
   | reg i =>
    refine go _ _ _ _ _ ?_
    unfold m_sum_with
    cases b
    all_goals walk_at "m go"
    all_goals (refine ⟨rfl,?_,rfl⟩; simp_all [sw_add,sw_sub,optV,Arg.isR,Arg.n])
  | add=>cases a with
   | num m=>cases b with
    | num k=>kernel_rfl
    | reg j =>
     refine go _ _ _ _ _ ?_
     unfold m_sum_with
     walk_at "m go"
     all_goals (refine ⟨rfl,?_,rfl⟩; simp_all [sw_add,sw_sub,optV,Arg.isR,Arg.n])
   | reg i =>
    refine go _ _ _ _ _ ?_
    unfold m_sum_with
    cases b
    all_goals walk_at "m go"
    all_goals (refine ⟨rfl,?_,rfl⟩; simp_all [sw_add,sw_sub,optV,Arg.isR,Arg.n])
theorem g_reg_is (i:Int) (H:List O):g_reg [.int i] H = some (argV (.reg i),H):=by
 kernel_rfl
theorem g_num_is (i:Int) (H:List O):g_num [.int i] H = some (argV (.num (i % 4294967296)),H):=by
 kernel_rfl
noncomputable def lawSum:Row -> Int × Int
 | .bin .add _ a b=>if a.isR = false ∧ b.isR = true then (b.n,a.n) else if a.isR = true ∧ b.isR = false then (a.n,b.n) else (-1,0)
 | .bin .sub _ a b=>if a.isR = true ∧ b.isR = false then (a.n,(0 - b.n) % 4294967296) else (-1,0)
 | _=>(-1,0)
theorem g_law_sum_is (r:Row) (H:List O):g_law_sum [.str r.op.s,.lst (r.args.map argV)] H = some (pairV (lawSum r),H):=by
 cases r with
 | bin o d a b=>cases o <;> cases a <;> cases b <;> kernel_rfl
 | un o d a=>cases o <;> cases a <;> kernel_rfl
noncomputable def lawPair:Row -> Option PI
 | .bin .mul _ (.reg i) (.num n)=>some (i,n)
 | .bin .mul _ (.num n) (.reg i)=>some (i,n)
 | _=>none
theorem lawPair_elim {r:Row} {p:PI} {C:Prop} (h:lawPair r = some p) (f:∀ d i n,r = .bin .mul d (.reg i) (.num n) -> (i,n) = p -> C) (g:∀ d i n,r = .bin .mul d (.num n) (.reg i) -> (i,n) = p -> C):C:=by
 cases r with
 | un o d a=>exact none_some h
 | bin o d a b =>
  cases o with
  | mul =>
   cases a with
   | reg i =>
    cases b with
    | reg j=>exact none_some h
    | num n=>exact f d i n rfl (Option.some.inj h)
   | num n =>
    cases b with
    | reg i=>exact g d i n rfl (Option.some.inj h)
    | num m=>exact none_some h
  | _=>exact none_some h
noncomputable def productOf (r:Row) (ks:List Int):Option PI:=(lawPair r).bind fun p=>if ks.contains p.1 = true then some p else none
theorem pr_rk {d i n:Int} {ks:List Int}:productOf (.bin .mul d (.reg i) (.num n)) ks = if ks.contains i then some (i,n) else none:=rfl
theorem pr_kr {d i n:Int} {ks:List Int}:productOf (.bin .mul d (.num n) (.reg i)) ks = if ks.contains i then some (i,n) else none:=rfl
theorem g_product_of_is (r:Row) (ks:List Int) (H:List O):g_product_of [stepV r,.set ks] H = some (optP (productOf r ks),H):=by
 have go:∀ (d:Int) (a b:Arg) (x:Option PI),ws m_product_of ⟨[stepV (.bin .mul d a b),.set ks] ++ List.replicate 2 .undef,[],H⟩ (fun σ=>V.none = optP x ∧ σ.heap = H) (fun u σ=>u.clean = true ∧ u = optP x ∧ σ.heap = H) -> g_product_of [stepV (.bin .mul d a b),.set ks] H = some (optP x,H):=fun d a b x h=>run_eq h
 cases r with
 | un o d a=>cases o <;> kernel_rfl
 | bin o d a b=>cases o with
  | add=>kernel_rfl
  | sub=>kernel_rfl
  | mul=>cases a with
   | reg i=>cases b with
    | reg j=>kernel_rfl
    | num n =>
     refine go _ _ _ _ ?_
     unfold m_product_of
     walk_at "m go"
     all_goals (refine ⟨rfl,?_,rfl⟩; simp_all [pr_rk,pr_kr,optP,pairV,Arg.n])
   | num n=>cases b with
    | num m=>kernel_rfl
    | reg j =>
     refine go _ _ _ _ ?_
     unfold m_product_of
     walk_at "m go"
     all_goals (refine ⟨rfl,?_,rfl⟩; simp_all [pr_rk,pr_kr,optP,pairV,Arg.n])
theorem g_law_pair_is (r:Row) (H:List O):g_law_pair [rowV r] H = some (optP (lawPair r),H):=by
 cases r with
 | bin o d a b=>cases o <;> cases a <;> cases b <;> kernel_rfl
 | un o d a=>cases o <;> cases a <;> kernel_rfl
noncomputable def Arg.val (cells:List Int):Arg -> Int
 | .reg i=>cells.getD i.toNat 0
 | .num n=>n
noncomputable def Arg.okIn (k:Nat):Arg -> Prop
 | .reg i=>0 ≤ i ∧ i < k
 | .num n=>0 ≤ n ∧ n < 4294967296
noncomputable def Row.okIn (k:Nat):Row -> Prop
 | .bin _ d a b=>d < k ∧ a.okIn k ∧ b.okIn k
 | .un o d a=>d < k ∧ a.okIn k ∧ (o = .copy -> a.isR = true)
noncomputable def setc (cells:List Int) (d v:Int):List Int:=if 0 ≤ d then cells.set d.toNat v else cells
noncomputable def Two.f:Two -> Int -> Int -> Int
 | .add,a,b=>a + b
 | .sub,a,b=>a - b
 | .mul,a,b=>a * b
noncomputable def doRow (cells:List Int):Row -> List Int
 | .bin o d a b=>setc cells d (o.f (a.val cells) (b.val cells) % 4294967296)
 | .un _ d a=>setc cells d (a.val cells % 4294967296)
noncomputable def Small (cells:List Int):Prop:=∀ x ∈ cells,0 ≤ x ∧ x < 4294967296
theorem Arg.val_small {cells:List Int} {a:Arg} (hs:Small cells) (ha:a.okIn cells.length):0 ≤ a.val cells ∧ a.val cells < 4294967296:=by
 cases a with
 | reg i =>
  obtain ⟨h0,h1⟩:=ha
  have:i.toNat < cells.length:=by exact tA ‹_› ‹_›
  show 0 ≤ cells.getD i.toNat 0 ∧ cells.getD i.toNat 0 < _
  rw [List.getD_eq_getElem?_getD,List.getElem?_eq_getElem this]
  exact hs _ (List.getElem_mem this)
 | num n=>exact ha
theorem op_mul {a b:Int} (h0:0 ≤ b) (h1:b < 4294967296):opMul (.int a) (.int b) = some (.int (a * b)):=by
 unfold opMul
 exact if_pos ⟨by lia,by exact wA ‹_› (by decide)⟩
theorem known_go {args:List Arg} {cells:List Int} {c:Nat} {H:List O} {L:List V -> St -> Prop} (hc:H[c]? = some (.list (cells.map V.int))) (ha:∀ a ∈ args,a.okIn cells.length) (hl:cells.length < lid)
  (q:∀ loc,L (args.map fun a=>V.int (a.val cells)) ⟨loc,[],H⟩) :
  wp (compM (tTup [tName 1,tName 2]) (pure true) (mIf (tCmp cEq (mGet 1) (pure (.str "r"))) (mIdx (mGet 3) (mGet 2)) (mGet 2)) (args.map argV)) ⟨[.undef,.undef,.undef,.ref true c],[],H⟩ L:=by
 refine wp_compM argV args (fun pre out σ=>Ex2 fun u v=>σ = ⟨[.undef,u,v,.ref true c],[],H⟩ ∧ out = pre.map fun a=>V.int (a.val cells)) ⟨_,_,rfl,rfl⟩ ?_ ?_
 ·rintro pre a post out σ e ⟨u,v,rfl,rfl⟩
  have hk:a.okIn cells.length:=ha a (by rw [e]; simp)
  cases a with
  | reg i =>
   obtain ⟨h0,h1⟩:=hk
   have hi:(cells.map V.int)[i.toNat]? = some (.int (Arg.val cells (.reg i))):=by
    have:i.toNat < cells.length:=by exact tA ‹_› ‹_›
    simp [Arg.val,List.getElem?_eq_getElem this]
   have hg:∀ σ:St,σ.heap = H -> getIdx σ (.ref true c) (.int i) = some (.int (Arg.val cells (.reg i))):=fun σ e=>by
    have:=idx_ref (σ:=σ) (g:=true) (n:=c) (k:=i.toNat) (show σ.heap[c]? = _ by rw [e]; exact hc) (by unfold lid at hl; (exact tB ‹_› ‹_› (by decide))) hi
    rwa [Int.toNat_of_nonneg h0] at this
   walk_at "m go"
   refine ansX (hg _ rfl) ?_
   exact ⟨_,_,rfl,by simp⟩
  | num n =>
   walk_at "m go"
   exact ⟨_,_,rfl,by simp [Arg.val]⟩
 ·rintro out σ ⟨u,v,rfl,rfl⟩
  exact q _
theorem doRow_neg {cells:List Int} {r:Row} (h:decide (0 ≤ r.dst) = false):doRow cells r = cells:=by
 have h:=of_decide_eq_false h
 cases r <;> exact if_neg h
theorem do_same {c:Nat} {H:List O} {o:O} (hc:H[c]? = some o):H.set c o = H:=by
 obtain ⟨h1,h2⟩:=List.getElem?_eq_some_iff.mp hc
 rw [← h2,List.set_getElem_self]
theorem do_end {r:Row} {cells:List Int} {c:Nat} {H:List O} (hc:H[c]? = some (.list (cells.map V.int))) (hd:r.dst < cells.length) (hl:cells.length < lid) {v:Int} (hv:doRow cells r = setc cells r.dst (v % 4294967296)) (h:decide (0 ≤ r.dst) = true)
  {loc:List V} {U:Unit -> St -> Prop} (q:∀ loc,U () ⟨loc,[],H.set c (.list ((doRow cells r).map V.int))⟩):wp (setSub (.ref true c) (.int r.dst) (.int (v % 4294967296))) ⟨loc,[],H⟩ U:=by
 have h:=of_decide_eq_true h
 refine wu_setSubL (vs:=cells.map V.int) hc h (by rw [List.length_map]; exact hd) (by rw [List.length_map]; exact hl) (fun _=>rfl) ?_
 have e:(cells.map V.int).set r.dst.toNat (.int (v % 4294967296)) = (doRow cells r).map V.int:=by
  rw [hv,setc,if_pos h,List.map_set]
 rw [e]
 exact q _
theorem g_law_do_is (r:Row) (cells:List Int) (c:Nat) (H:List O) (hc:H[c]? = some (.list (cells.map V.int))) (hr:r.okIn cells.length) (hs:Small cells) (hl:cells.length < lid) :
  g_law_do [.ref true c,rowV r] H = some (.none,H.set c (.list ((doRow cells r).map V.int))):=by
 refine run_eq ?_
 unfold m_law_do
 walk_at "m go"
 refine known_go hc ?_ hl ?_
 ·cases r with
  | bin o d a b=>intro x hx; simp only [Row.args,List.mem_cons,List.not_mem_nil,or_false] at hx; rcases hx with rfl | rfl; exact hr.2.1; exact hr.2.2
  | un o d a=>intro x hx; simp only [Row.args,List.mem_cons,List.not_mem_nil,or_false] at hx; subst hx; exact hr.2.1
 intro loc
 have hd:r.dst < cells.length:=by cases r <;> exact hr.1
 rcases r with ⟨o,d,a,b⟩ | ⟨o,d,a⟩
 ·have hb:=Arg.val_small hs hr.2.2
  cases o
  all_goals walk_at "m go"
  all_goals try (rw [doRow_neg (by assumption),do_same hc]; rfl)
  all_goals try (refine do_end hc hd hl rfl (by assumption) fun _=>?_; exact ws_nil (ws_nil ⟨rfl,rfl⟩))
  refine ansX (op_mul hb.1 hb.2) ?_
  walk_at "m go"
  all_goals try (rw [doRow_neg (by assumption),do_same hc]; rfl)
  all_goals try (refine do_end hc hd hl rfl (by assumption) fun _=>?_; exact ws_nil (ws_nil ⟨rfl,rfl⟩))
 ·cases o
  all_goals walk_at "m go"
  all_goals try (rw [doRow_neg (by assumption),do_same hc]; rfl)
  all_goals try (refine do_end hc hd hl rfl (by assumption) fun _=>?_; exact ws_nil (ws_nil ⟨rfl,rfl⟩))
noncomputable def seek (rows:List Row) (d s:Int):Nat -> Option Int
 | 0=>none
 | k + 1=>rows[k]?.bind fun q=>if q.dst = d then none else if q.dst = s then sumWith q d else seek rows d s k
theorem seek_at {rows:List Row} {d s:Int} {k:Nat} {q:Row} (h:rows[k]? = some q):seek rows d s (k + 1) = if q.dst = d then none else if q.dst = s then sumWith q d else seek rows d s k:=obind_of h rfl
noncomputable def growthAt (rows:List Row) (p:Nat):Option Int:=match rows[p]? with
 | none=>none
 | some (.un .copy d (.reg s))=>seek rows d s p
 | some r=>sumWith r r.dst
theorem steps_get {rows:List Row} {p:Nat} {r:Row} (h:rows[p]? = some r):(rows.map stepV)[p]? = some (stepV r):=by rw [List.getElem?_map,h]; rfl
theorem lt63 {rows:List Row} (h:rows.length < 200) {p:Nat} {r:Row} (hp:rows[p]? = some r):p < 2 ^ 63:=by
 have:=(List.getElem?_eq_some_iff.mp hp).1
 lia
theorem g_in_place_of_is (r q:Row) (hq:q.op ≠ .call) (H:List O):g_in_place_of [stepV r,.str q.op.s,.int q.dst,.lst (q.args.map argV),.int 0] H = some (stepV q,H):=by
 refine run_eq ?_
 unfold m_in_place_of
 refine ws_seq (ws_set (wp_step ?_))
 walk_at "m go"
 refine ⟨_,_,_,_,rfl,rfl,rfl,rfl,rfl,?_⟩
 refine ws_seq (ws_attrT (t:=[]) (fs:=stepF (.str q.op.s) (.int q.dst) (.lst (q.args.map argV)) (.int 0)) (i:=5) rfl (of_decide_eq_true rfl) ?_)
 refine wp_attr (wp_get rfl rfl (ansX (step_line r) ⟨rfl,?_⟩))
 refine ws_seq (ws_ret (wp_frz (wp_get rfl rfl ⟨_,_,rfl,?_⟩)))
 have e:V.inst 45 (stepF (.str q.op.s) (.int q.dst) (.lst (q.args.map argV)) (.int 0)) = stepV q:=by
  unfold stepV moreV stepF
  rw [if_neg hq]
 exact ⟨by rw [show putF _ _ _ = stepF (.str q.op.s) (.int q.dst) (.lst (q.args.map argV)) (.int 0) from rfl,e]; exact step_clean q,e,rfl⟩
set_option tactic.hygienic true in
theorem g_growth_at_is (rows:List Row) (p:Nat) (r:Row) (hp:rows[p]? = some r) (hl:rows.length < 200) (H:List O):g_growth_at [.lst (rows.map stepV),.int p] H = some (optV (growthAt rows p),H):=by
 refine run_eq ?_
 unfold m_growth_at
 have hp0:=getL_of (lt63 hl hp) (steps_get hp)
 rcases r with ⟨o,d,a,b⟩ | ⟨o,d,a⟩
 ·cases o
  all_goals walk_at "m go"
  all_goals (refine callX (g_sum_with_is _ _ _) ?_)
  all_goals (refine ⟨opt_clean _,?_,rfl⟩; unfold growthAt; rw [hp])
 ·cases o <;> cases a
  all_goals walk_at "m go"
  all_goals try (refine callX (g_sum_with_is _ _ _) ?_; refine ⟨opt_clean _,?_,rfl⟩; unfold growthAt; rw [hp])
  rename_i s
  have hg:growthAt rows p = seek rows d s p:=by unfold growthAt; rw [hp]
  refine ws_while (fun n σ=>n ≤ p ∧ (∃ a:Int,a = (n:Int) - 1 ∧ σ = ⟨[.lst (rows.map stepV),.int p,stepV (.un .copy d (.reg s)),.int s,.int a,.undef],[],H⟩) ∧ seek rows d s n = seek rows d s p) p (by have:=(List.getElem?_eq_some_iff.mp hp).1; lia) ⟨Nat.le_refl _,⟨_,rfl,rfl⟩,rfl⟩ ?_
  rintro n σ ⟨hn,⟨a,ha,rfl⟩,hs⟩
  cases n with
  | zero =>
   walk_at "m go"
   ·exact absurd (of_decide_eq_true mh) (by lia)
   ·exact ⟨rfl,by rw [hg,← hs]; rfl,rfl⟩
  | succ k =>
   obtain rfl:a = (k:Int):=by lia
   have hk:k < rows.length:=by have:=(List.getElem?_eq_some_iff.mp hp).1; lia
   have hq:rows[k]? = some rows[k]:=List.getElem?_eq_getElem hk
   generalize rows[k] = q at hq
   have hi:=getL_of (by lia) (steps_get hq)
   walk_at "m go"
   rw [seek_at hq] at hs
   ·have h1:¬ q.dst = d:=of_decide_eq_false ((Bool.not_eq_true' _).mp (by assumption:(!decide (q.dst = (Row.un One.copy d (Arg.reg s)).dst)) = true))
    have h2:q.dst = s:=of_decide_eq_true (by assumption)
    rw [if_neg h1,if_pos h2] at hs
    refine callX (g_sum_with_is _ _ _) ⟨opt_clean _,?_,rfl⟩
    rw [hg,← hs]; rfl
   ·have h1:¬ q.dst = d:=of_decide_eq_false ((Bool.not_eq_true' _).mp (by assumption:(!decide (q.dst = (Row.un One.copy d (Arg.reg s)).dst)) = true))
    have h2:¬ q.dst = s:=of_decide_eq_false (by assumption)
    refine ⟨k,Nat.lt_succ_self _,by exact Nat.le_of_lt ‹_›,⟨_,rfl,rfl⟩,?_⟩
    rw [← hs,seek_at hq,if_neg h1,if_neg h2]
   ·have h1:q.dst = d:=of_decide_eq_true ((Bool.not_eq_false' _).mp (by assumption:(!decide (q.dst = (Row.un One.copy d (Arg.reg s)).dst)) = false))
    refine ⟨rfl,?_,rfl⟩
    rw [hg,← hs,seek_at hq,if_pos h1]; rfl
structure GS where
 sums:List (Int × Shape)
 turns:List (Int × Int)
 found:List (Option Int)
noncomputable def Row.a:Row -> Arg
 | .bin _ _ a _=>a
 | .un _ _ a=>a
theorem args_a (r:Row):getL (r.args.map argV) 0 = some (argV r.a):=by cases r <;> rfl
noncomputable def turnOf (g:GS) (k:Int):Int:=(getK g.turns k).getD 0
noncomputable def shapeOf (g:GS) (r:Row):Shape:=if r.op.is .copy then (getK g.sums r.a.n).getD (-1,0,0) else ((lawSum r).1,turnOf g (lawSum r).1,(lawSum r).2)
noncomputable def isGrow (g:GS) (r:Row):Bool:=decide (0 ≤ r.dst) && (decide ((shapeOf g r).1 = r.dst) && decide ((shapeOf g r).2.1 = turnOf g r.dst))
noncomputable def keptShape (g:GS) (r:Row):Shape:=if r.op.is .copy then (-1,0,0) else shapeOf g r
noncomputable def gstep (g:GS) (r:Row):GS:=⟨putK g.sums r.dst (keptShape g r),putK g.turns r.dst (turnOf g r.dst + 1),g.found ++ [if isGrow g r then some (shapeOf g r).2.2 else none]⟩
noncomputable def lawGrowths (rows:List Row):List (Option Int):=(rows.foldl gstep ⟨[],[],[]⟩).found
noncomputable def GS.sumsO (g:GS):O:=.dctI (g.sums.map fun e=>(e.1,shapeV e.2))
noncomputable def GS.turnsO (g:GS):O:=.dctI (g.turns.map fun e=>(e.1,V.int e.2))
noncomputable def GS.foundO (g:GS):O:=.list (g.found.map optV)
theorem gstep_sums (g:GS) (r:Row) (v:V) (h:v = shapeV (keptShape g r)):O.dctI (putK (g.sums.map fun e=>(e.1,shapeV e.2)) r.dst v) = (gstep g r).sumsO:=by
 rw [h,putK_map]; rfl
theorem gstep_turns (g:GS) (r:Row):O.dctI (putK (g.turns.map fun e=>(e.1,V.int e.2)) r.dst (.int (turnOf g r.dst + 1))) = (gstep g r).turnsO:=by
 rw [putK_map]; rfl
theorem gstep_found (g:GS) (r:Row) (f:V) (hf:f = optV (if isGrow g r then some (shapeOf g r).2.2 else none)):O.list (g.found.map optV ++ [f]) = (gstep g r).foundO:=by
 subst hf
 show _ = O.list ((g.found ++ [_]).map optV)
 rw [List.map_append]
 rfl
theorem gstep_state {g:GS} {r:Row} {loc:List V} {H:List O} {v f:V} (hv:v = shapeV (keptShape g r)) (hf:f = optV (if isGrow g r then some (shapeOf g r).2.2 else none)) :
  St.mk loc [O.dctI (putK (g.sums.map fun e=>(e.1,shapeV e.2)) r.dst v),O.dctI (putK (g.turns.map fun e=>(e.1,V.int e.2)) r.dst (.int (turnOf g r.dst + 1))),O.list (g.found.map optV ++ [f])] H = ⟨loc,[(gstep g r).sumsO,(gstep g r).turnsO,(gstep g r).foundO],H⟩:=by
 rw [gstep_sums g r v hv,gstep_turns,gstep_found g r f hf]
theorem grow_of {g:GS} {r:Row} {s:Shape} {b:Bool} (hs:shapeOf g r = s) (h:(decide (0 ≤ r.dst) && (decide (s.1 = r.dst) && decide (s.2.1 = turnOf g r.dst))) = b):optV (if isGrow g r then some (shapeOf g r).2.2 else none) = if b then .int s.2.2 else .none:=by
 unfold isGrow
 rw [hs,h]
 cases b <;> rfl
theorem shape_no {g:GS} {r:Row} (hc:r.op.is .copy = false):shapeOf g r = ((lawSum r).1,turnOf g (lawSum r).1,(lawSum r).2):=by unfold shapeOf; rw [hc]; rfl
theorem shape_yes {g:GS} {r:Row} (hc:r.op.is .copy = true):shapeOf g r = (getK g.sums r.a.n).getD (-1,0,0):=by unfold shapeOf; rw [hc]; rfl
theorem kept_no {g:GS} {r:Row} (hc:r.op.is .copy = false):keptShape g r = ((lawSum r).1,turnOf g (lawSum r).1,(lawSum r).2):=by unfold keptShape; rw [hc]; exact shape_no hc
theorem kept_yes {g:GS} {r:Row} (hc:r.op.is .copy = true):keptShape g r = (-1,0,0):=by unfold keptShape; rw [hc]; rfl
theorem g_law_growths_is (rows:List Row) (hl:rows.length < 1000) (H:List O):g_law_growths [.lst (rows.map rowV)] H = some (.lst ((lawGrowths rows).map optV),H):=by
 refine run_eq ?_
 unfold m_law_growths
 walk_at "m go"
 refine ws_forI rowV rows (fun pre σ=>Ex7 fun v4 v5 v6 v7 v8 v9 v10=>σ = ⟨[.lst (rows.map rowV),.ref false 0,.ref false 1,.ref false 2,v4,v5,v6,v7,v8,v9,v10,.undef],[(pre.foldl gstep ⟨[],[],[]⟩).sumsO,(pre.foldl gstep ⟨[],[],[]⟩).turnsO,(pre.foldl gstep ⟨[],[],[]⟩).foundO],H⟩
  ∧ (pre.foldl gstep ⟨[],[],[]⟩).sums.length ≤ pre.length ∧ (pre.foldl gstep ⟨[],[],[]⟩).turns.length ≤ pre.length ∧ (pre.foldl gstep ⟨[],[],[]⟩).found.length = pre.length) ⟨_,_,_,_,_,_,_,rfl,Nat.le_refl _,Nat.le_refl _,rfl⟩ ?_ ?_
 ·rintro pre r post σ e ⟨v4,v5,v6,v7,v8,v9,v10,rfl,h1,h2,h3⟩
  have hlen:pre.length < 1000:=by rw [e] at hl; simp at hl; (exact nH ‹_› (by decide))
  rw [List.foldl_append,List.foldl_cons,List.foldl_nil,List.length_append]
  generalize pre.foldl gstep ⟨[],[],[]⟩ = g at h1 h2 h3
  have ha:=args_a r
  walk_at "m go"
  refine callX (g_law_sum_is _ _) ?_
  have g1:(gstep g r).sums.length ≤ pre.length + 1:=Nat.le_trans (putK_len _ _ _) (by exact Nat.lt_succ_of_le ‹_›)
  have g2:(gstep g r).turns.length ≤ pre.length + 1:=Nat.le_trans (putK_len _ _ _) (by exact Nat.lt_succ_of_le ‹_›)
  have g3:(gstep g r).found.length = pre.length + 1:=by show (g.found ++ [_]).length = _; rw [List.length_append,h3]; rfl
  cases hc:r.op.is .copy
  all_goals walk_at "m go"
  all_goals refine wp_and3 ?_
  all_goals walk_at "m go"
  all_goals refine ⟨_,_,_,rfl,rfl,rfl,rfl,rfl,rfl,?_⟩
  all_goals walk_at "m go"
  ·refine ⟨_,_,_,_,_,_,_,gstep_state (by rw [kept_no hc]; rfl) ?_,g1,g2,g3⟩
   exact (grow_of (b:=true) (shape_no hc) (by assumption)).symm
  ·refine ⟨_,_,_,_,_,_,_,gstep_state (by rw [kept_no hc]; rfl) ?_,g1,g2,g3⟩
   exact (grow_of (b:=false) (shape_no hc) (by assumption)).symm
  ·refine ⟨_,_,_,_,_,_,_,gstep_state (by rw [kept_yes hc]; rfl) ?_,g1,g2,g3⟩
   exact (grow_of (b:=true) (shape_yes hc) (by assumption)).symm
  ·refine ⟨_,_,_,_,_,_,_,gstep_state (by rw [kept_yes hc]; rfl) ?_,g1,g2,g3⟩
   exact (grow_of (b:=false) (shape_yes hc) (by assumption)).symm
 ·rintro σ ⟨v4,v5,v6,v7,v8,v9,v10,rfl,h1,h2,h3⟩
  walk_at "m go"
  exact ⟨_,_,rfl,cl_opt _,rfl,rfl⟩
noncomputable def funcF (k:Int):List (Str × V):=[("name",.str "f"),("params",.lst []),("is_static",.bool false),("slots",.lst []),("blocks",.ref true 2),("registers",.int k),("has_value",.bool false)]
noncomputable def blockF (n:Int) (S:V):List (Str × V):=[("number",.int n),("steps",S),("end",.none)]
noncomputable def blockRefs (m:Nat):List V:=.obj true 66 3 :: (List.range m).map fun i=>.obj true 66 (5 + i)
noncomputable def blocksO (Ss:List (List Row)):List O:=Ss.zipIdx.map fun x=>.inst (blockF ((x.2 + 1:Nat):Int) (.lst (x.1.map stepV)))
noncomputable def lawHeap (w:O) (k:Int) (L:List Row) (Ss:List (List Row)):List O:=w :: .inst (funcF k) :: .list (blockRefs Ss.length) :: .inst (blockF 0 (.ref true 4)) :: .list (L.map stepV) :: blocksO Ss
section
variable {w:O} {k:Int} {L:List Row} {Ss:List (List Row)}
theorem blocksO_get {m:Nat} {S:List Row} (h:Ss[m]? = some S):(blocksO Ss)[m]? = some (.inst (blockF ((m + 1:Nat):Int) (.lst (S.map stepV)))):=by
 unfold blocksO
 rw [List.getElem?_map,List.getElem?_zipIdx,h]
 simp
theorem lawHeap_blk {m:Nat} {S:List Row} (h:Ss[m]? = some S):(lawHeap w k L Ss)[5 + m]? = some (.inst (blockF ((m + 1:Nat):Int) (.lst (S.map stepV)))):=by
 rw [← blocksO_get h]
 unfold lawHeap
 rw [Nat.add_comm]
 rfl
theorem refs_get {m:Nat} (h:m < Ss.length):(blockRefs Ss.length)[m + 1]? = some (.obj true 66 (5 + m)):=by
 unfold blockRefs
 rw [List.getElem?_cons_succ,List.getElem?_map,List.getElem?_range h]
 rfl
theorem lawHeap_set {m:Nat} {S S':List Row} (h:Ss[m]? = some S):(lawHeap w k L Ss).set (5 + m) (.inst (blockF ((m + 1:Nat):Int) (.lst (S'.map stepV)))) = lawHeap w k L (Ss.set m S'):=by
 unfold lawHeap
 rw [Nat.add_comm,List.length_set]
 show _ :: _ :: _ :: _ :: _ :: List.set _ _ _ = _
 congr 5
 unfold blocksO
 apply List.ext_getElem?
 intro i
 rw [List.getElem?_set,List.getElem?_map,List.getElem?_map,List.getElem?_zipIdx,List.getElem?_zipIdx,List.getElem?_set]
 have hm:=(List.getElem?_eq_some_iff.mp h).1
 by_cases e:m = i
 ·subst e
  simp [hm]
 ·simp [e]
theorem wp_stepsR {σ:St} {i j m:Nat} {rows:List Row} {Q:V -> St -> Prop} (hi:σ.loc[i]? = some (.obj true 87 1)) (hj:σ.loc[j]? = some (.int ((m + 1:Nat):Int))) (hH:σ.heap = lawHeap w k L Ss) (hr:Ss[m]? = some rows) (hm:m < 1000) (q:Q (.lst (rows.map stepV)) σ) :
  wp (mAttr 66 1 "steps" (mIdx (mAttr 87 4 "blocks" (mGet i)) (mGet j))) σ Q:=by
 have hl:=(List.getElem?_eq_some_iff.mp hr).1
 refine wp_attr (wp_idx (wp_attr (wp_get hi rfl (ansX (attr_obj (fs:=funcF k) (show σ.heap[1]? = _ by rw [hH]; rfl) rfl) (wp_get hj rfl ?_)))))
 refine ansX (idx_ref (vs:=blockRefs Ss.length) (k:=m + 1) (show σ.heap[2]? = _ by rw [hH]; rfl) (by lia) (refs_get hl)) ?_
 exact ansX (attr_obj (fs:=blockF ((m + 1:Nat):Int) (.lst (rows.map stepV))) (show σ.heap[5 + m]? = _ by rw [hH]; exact lawHeap_blk hr) rfl) q
end
noncomputable def loopV (many:Nat):V:=.inst 108 [("header",.int 1),("blocks",.blk many),("tails",.lst [.int many])]
theorem wp_loop {σ:St} {i many:Nat} {Q:V -> St -> Prop} (hi:σ.loc[i]? = some (loopV many)) (hm:many ≤ 3) (q:Q (.lst ((List.range' 1 many).map fun n:Nat=>V.int n)) σ):wp (mSortedB (mAttr 108 1 "blocks" (mGet i))) σ Q:=by
 have e:∀ n a:Nat,intR (a:Int) n = (List.range' a n).map fun n:Nat=>V.int n:=by
  intro n
  induction n with
  | zero=>intro a; rfl
  | succ n ih=>intro a; exact congrArg (List.cons (V.int a)) (ih (a + 1))
 refine wp_sortedB (wp_attr (wp_get hi rfl (ansX (attr_inst rfl) ⟨many,rfl,hm,?_⟩)))
 rw [show (1:Int) = ((1:Nat):Int) from rfl,e]
 exact q
theorem enum_is (rows:List Row) (k:Nat):enumV k (rows.map stepV) = (rows.zipIdx k).map fun x=>V.tup [.int (x.2:Nat),stepV x.1]:=by
 induction rows generalizing k with
 | nil=>rfl
 | cons r rows ih=>exact congrArg (List.cons _) (ih (k + 1))
structure Trip where
 n:Nat
 p:Nat
 r:Row
noncomputable def tripV (t:Trip):V:=.tup [.int t.n,.int t.p,stepV t.r]
noncomputable def tripsIn (n:Nat) (rows:List Row):List Trip:=rows.zipIdx.map fun x=>⟨n,x.2,x.1⟩
theorem trip_clean (t:Trip):(tripV t).clean = true:=by
 show ((stepV t.r).clean && true) = true
 rw [step_clean]; rfl
theorem cl_trip (l:List Trip):cleanL (l.map tripV) = true:=cleanL_map trip_clean l
noncomputable def tripsOf (Ss:List (List Row)) (ns:List Nat):List Trip:=ns.flatMap fun n=>tripsIn n (Ss.getD (n - 1) [])
theorem tripsOf_app {Ss:List (List Row)} {a b:List Nat}:tripsOf Ss (a ++ b) = tripsOf Ss a ++ tripsOf Ss b:=List.flatMap_append
theorem tripsOf_one {Ss:List (List Row)} {m:Nat} {rows:List Row} (h:Ss[m]? = some rows):tripsOf Ss [m + 1] = tripsIn (m + 1) rows:=by
 unfold tripsOf
 rw [List.flatMap_cons,List.flatMap_nil,List.append_nil,Nat.add_sub_cancel,List.getD_eq_getElem?_getD,h]; rfl
theorem range_mem {Ss:List (List Row)} {many n:Nat} (hS:many ≤ Ss.length) {pre post:List Nat} (e:List.range' 1 many = pre ++ n :: post):Ex2 fun m rows=>And3 (n = m + 1) (m < many) (Ss[m]? = some rows):=by
 have h:n ∈ List.range' 1 many:=by rw [e]; simp
 rw [List.mem_range'_1] at h
 refine ⟨n - 1,Ss[n - 1],by exact tG ‹_›,by exact tE ‹_›,List.getElem?_eq_getElem (by exact tF ‹_› ‹_›)⟩
theorem g_steps_in_is {w:O} {k:Int} {L:List Row} {Ss:List (List Row)} {many:Nat} (hm:many ≤ 3) (hS:many ≤ Ss.length) (hl:(tripsOf Ss (List.range' 1 many)).length < 1000) :
  g_steps_in [.obj true 87 1,loopV many] (lawHeap w k L Ss) = some (.lst ((tripsOf Ss (List.range' 1 many)).map tripV),lawHeap w k L Ss):=by
 refine run_eq ?_
 unfold m_steps_in
 walk_at "m go"
 refine wp_loop (by exact rfl) hm ?_
 walk_at "m go"
 refine ws_forI (fun n:Nat=>V.int n) (List.range' 1 many) (fun pre σ=>Ex3 fun v3 v4 v5=>σ = ⟨[.obj true 87 1,loopV many,.ref false 0,v3,v4,v5,.undef,.undef],[.list ((tripsOf Ss pre).map tripV)],lawHeap w k L Ss⟩) ⟨_,_,_,rfl⟩ ?_ ?_
 ·rintro pre n post σ e ⟨v3,v4,v5,rfl⟩
  obtain ⟨m,rows,rfl,hmm,hr⟩:=range_mem hS e
  have hlen:(tripsOf Ss pre).length + (tripsIn (m + 1) rows).length < 1000:=by
   rw [e,tripsOf_app,show (m + 1) :: post = [m + 1] ++ post from rfl,tripsOf_app,tripsOf_one hr,List.length_append,List.length_append] at hl
   lia
  rw [tripsOf_app,tripsOf_one hr]
  walk_at "m go"
  refine wp_stepsR (w:=w) (k:=k) (L:=L) (by exact rfl) (by exact rfl) (by exact rfl) hr (by lia) ?_
  walk_at "m go"
  rw [enum_is]
  refine ws_forI (fun x:Row × Nat=>V.tup [.int (x.2:Nat),stepV x.1]) (rows.zipIdx 0) (fun pr σ=>∃ v4 v5,σ = ⟨[.obj true 87 1,loopV many,.ref false 0,.int ((m + 1:Nat):Int),v4,v5,.undef,.undef],[.list ((tripsOf Ss pre ++ pr.map fun x=>Trip.mk (m + 1) x.2 x.1).map tripV)],lawHeap w k L Ss⟩) ⟨_,_,by rw [List.map_nil,List.append_nil]; rfl⟩ ?_ ?_
  ·rintro pr ⟨r,p⟩ ps σ e2 ⟨v4,v5,rfl⟩
   have hp:pr.length < (tripsIn (m + 1) rows).length:=by
    unfold tripsIn; rw [List.length_map,e2,List.length_append,List.length_cons]; lia
   walk_at "m go"
   have e3:(tripsOf Ss pre ++ (pr ++ [(r,p)]).map fun x=>Trip.mk (m + 1) x.2 x.1).map tripV = (tripsOf Ss pre ++ pr.map fun x=>Trip.mk (m + 1) x.2 x.1).map tripV ++ [tripV ⟨m + 1,p,r⟩]:=by simp
   rw [e3]
   exact ⟨_,_,rfl⟩
  ·rintro σ ⟨v4,v5,rfl⟩
   walk_at "m go"
   exact ⟨_,_,_,rfl⟩
 ·refine xe3 fun v3 v4 v5=>?_
  walk_at "m go"
  exact ⟨_,_,rfl,cl_trip _,rfl,rfl⟩
theorem dedup_mem {l:List Int} {k j:Int}:j ∈ step_dedup l k ↔ j = k ∨ j ∈ l:=by
 unfold step_dedup
 split
 ·rename_i h
  have h:k ∈ l:=by simpa using h
  exact ⟨fun x=>.inr x,fun x=>x.elim (fun e=>e ▸ h) id⟩
 ·simp [or_comm]
theorem dedup_nodup {l:List Int} {k:Int} (h:l.Nodup):(step_dedup l k).Nodup:=by
 unfold step_dedup
 split
 ·exact h
 ·rename_i hk
  have hk:¬ k ∈ l:=by simpa using hk
  rw [List.nodup_append]
  exact ⟨h,by simp,fun a ha b hb=>by rw [List.mem_singleton.mp hb]; rintro rfl; exact hk ha⟩
theorem dedup_len {l:List Int} {k:Int}:(step_dedup l k).length ≤ l.length + 1:=by
 unfold step_dedup
 split
 ·(exact Nat.le_succ _)
 ·rw [List.length_append]; exact Nat.le_refl _
noncomputable def tripOk (Ss:List (List Row)) (t:Trip):Prop:=Ex2 fun m rows=>And5 (t.n = m + 1) (m < 1000) (Ss[m]? = some rows) (rows[t.p]? = some t.r) (rows.length < 200)
noncomputable def growOf (Ss:List (List Row)) (t:Trip):Option Int:=growthAt (Ss.getD (t.n - 1) []) t.p
structure CF (Ss:List (List Row)) (ts:List Trip) (F G:List Int):Prop where
 nf:F.Nodup
 lf:F.length ≤ ts.length
 lg:G.length ≤ ts.length
 mf:∀ k,k ∈ F ↔ ∃ t ∈ ts,t.r.dst = k ∧ 0 ≤ k ∧ (growOf Ss t).isSome = true
 mg:∀ k,k ∈ G ↔ ∃ t ∈ ts,t.r.dst = k ∧ 0 ≤ k ∧ (growOf Ss t).isNone = true
theorem CF.stepF {Ss:List (List Row)} {ts:List Trip} {F G:List Int} (h:CF Ss ts F G) {t:Trip} (h0:0 ≤ t.r.dst) (hg:(growOf Ss t).isNone = false):CF Ss (ts ++ [t]) (step_dedup F t.r.dst) G:=by
 have hg':(growOf Ss t).isSome = true:=by cases e:growOf Ss t <;> rw [e] at hg <;> first | rfl | cases hg
 refine ⟨dedup_nodup h.nf,Nat.le_trans dedup_len (by have:=h.lf; rw [List.length_append]; simp; (assumption)),by have:=h.lg; rw [List.length_append]; (exact Nat.le_succ_of_le ‹_›),fun k=>?_,fun k=>?_⟩
 ·rw [dedup_mem,h.mf]
  constructor
  ·rintro (rfl | ⟨u,hu,r⟩)
   ·exact ⟨t,by simp,rfl,h0,hg'⟩
   ·exact ⟨u,by simp [hu],r⟩
  ·rintro ⟨u,hu,r⟩
   rcases List.mem_append.mp hu with hu | hu
   ·exact .inr ⟨u,hu,r⟩
   ·obtain rfl:=List.mem_singleton.mp hu
    exact .inl r.1.symm
 ·rw [h.mg]
  constructor
  ·rintro ⟨u,hu,r⟩
   exact ⟨u,by simp [hu],r⟩
  ·rintro ⟨u,hu,r⟩
   rcases List.mem_append.mp hu with hu | hu
   ·exact ⟨u,hu,r⟩
   ·obtain rfl:=List.mem_singleton.mp hu
    rw [hg] at r; exact absurd r.2.2 (by decide)
theorem CF.stepG {Ss:List (List Row)} {ts:List Trip} {F G:List Int} (h:CF Ss ts F G) {t:Trip} (h0:0 ≤ t.r.dst) (hg:(growOf Ss t).isNone = true):CF Ss (ts ++ [t]) F (step_dedup G t.r.dst):=by
 have hg':(growOf Ss t).isSome = false:=by cases e:growOf Ss t <;> rw [e] at hg <;> first | rfl | cases hg
 refine ⟨h.nf,by have:=h.lf; rw [List.length_append]; (exact Nat.le_succ_of_le ‹_›),Nat.le_trans dedup_len (by have:=h.lg; rw [List.length_append]; simp; (assumption)),fun k=>?_,fun k=>?_⟩
 ·rw [h.mf]
  constructor
  ·rintro ⟨u,hu,r⟩
   exact ⟨u,by simp [hu],r⟩
  ·rintro ⟨u,hu,r⟩
   rcases List.mem_append.mp hu with hu | hu
   ·exact ⟨u,hu,r⟩
   ·obtain rfl:=List.mem_singleton.mp hu
    rw [hg'] at r; exact absurd r.2.2 (by decide)
 ·rw [dedup_mem,h.mg]
  constructor
  ·rintro (rfl | ⟨u,hu,r⟩)
   ·exact ⟨t,by simp,rfl,h0,hg⟩
   ·exact ⟨u,by simp [hu],r⟩
  ·rintro ⟨u,hu,r⟩
   rcases List.mem_append.mp hu with hu | hu
   ·exact .inr ⟨u,hu,r⟩
   ·obtain rfl:=List.mem_singleton.mp hu
    exact .inl r.1.symm
theorem CF.stepN {Ss:List (List Row)} {ts:List Trip} {F G:List Int} (h:CF Ss ts F G) {t:Trip} (h0:¬ 0 ≤ t.r.dst):CF Ss (ts ++ [t]) F G:=by
 refine ⟨h.nf,by have:=h.lf; rw [List.length_append]; (exact Nat.le_succ_of_le ‹_›),by have:=h.lg; rw [List.length_append]; (exact Nat.le_succ_of_le ‹_›),fun k=>?_,fun k=>?_⟩
 ·rw [h.mf]
  constructor
  ·rintro ⟨u,hu,r⟩
   exact ⟨u,by simp [hu],r⟩
  ·rintro ⟨u,hu,r⟩
   rcases List.mem_append.mp hu with hu | hu
   ·exact ⟨u,hu,r⟩
   ·obtain rfl:=List.mem_singleton.mp hu
    exact absurd (r.1 ▸ r.2.1) h0
 ·rw [h.mg]
  constructor
  ·rintro ⟨u,hu,r⟩
   exact ⟨u,by simp [hu],r⟩
  ·rintro ⟨u,hu,r⟩
   rcases List.mem_append.mp hu with hu | hu
   ·exact ⟨u,hu,r⟩
   ·obtain rfl:=List.mem_singleton.mp hu
    exact absurd (r.1 ▸ r.2.1) h0
noncomputable def IsCtr (Ss:List (List Row)) (ts:List Trip) (k:Int):Prop:=(∃ t ∈ ts,t.r.dst = k ∧ 0 ≤ k ∧ (growOf Ss t).isSome = true) ∧ ¬ ∃ t ∈ ts,t.r.dst = k ∧ 0 ≤ k ∧ (growOf Ss t).isNone = true
theorem nodup_sub_len {l m:List Int} (h:l.Nodup) (hs:∀ a ∈ l,a ∈ m):l.length ≤ m.length:=by
 induction l generalizing m with
 | nil=>exact Nat.zero_le _
 | cons a l ih =>
  rw [List.nodup_cons] at h
  have ha:a ∈ m:=hs a (by simp)
  have:=ih (m:=m.erase a) h.2 fun b hb=>(List.mem_erase_of_ne (by rintro rfl; exact h.1 hb)).mpr (hs b (by simp [hb]))
  rw [List.length_erase_of_mem ha] at this
  have:=List.length_pos_of_mem ha
  rw [List.length_cons]; lia
theorem g_counters_of_is {w:O} {k:Int} {L:List Row} {Ss:List (List Row)} (ts:List Trip) (hl:ts.length < 100) (hok:∀ t ∈ ts,tripOk Ss t) (hd:∀ t ∈ ts,t.r.dst < 5) (h4:∃ t ∈ ts,0 ≤ t.r.dst ∧ (growOf Ss t).isNone = true) :
  ∃ v H',g_counters_of [.obj true 87 1,.lst (ts.map tripV)] (lawHeap w k L Ss) = some (v,H') ∧ H' = lawHeap w k L Ss ∧ ∃ ks,v = .set ks ∧ ∀ k,k ∈ ks ↔ IsCtr Ss ts k:=by
 refine run_of ?_
 unfold m_counters_of
 walk_at "m go"
 refine ws_forI tripV ts (fun pre σ=>Ex5 fun v4 v5 v6 F G=>σ = ⟨[.obj true 87 1,.lst (ts.map tripV),.ref false 0,.ref false 1,v4,v5,v6,.undef,.undef],[.set F,.set G],lawHeap w k L Ss⟩ ∧ CF Ss pre F G) ⟨_,_,_,_,_,rfl,.nil,Nat.le_refl _,Nat.le_refl _,by simp,by simp⟩ ?_ ?_
 ·rintro pre t post σ e ⟨v4,v5,v6,F,G,rfl,hF⟩
  have hpl:pre.length < 100:=by rw [e] at hl; simp at hl; (exact nH ‹_› (by decide))
  obtain ⟨m,rows,hn,hm,hr,hp,h200⟩:=hok t (by rw [e]; simp)
  have hgo:growOf Ss t = growthAt rows t.p:=by unfold growOf; rw [hn,Nat.add_sub_cancel,List.getD_eq_getElem?_getD,hr]; rfl
  have lf:=hF.lf
  have lg:=hF.lg
  walk_at "m go"
  ·refine wp_stepsR (w:=w) (k:=k) (L:=L) (by exact rfl) (by rw [← hn]; exact rfl) (by exact rfl) hr hm ?_
   walk_at "m go"
   refine callX (g_growth_at_is rows t.p t.r hp h200 _) ?_
   rw [← hgo]
   walk_at "m go"
   ·refine ⟨by exact nC ‹_› ‹_› (by decide),rfl,?_⟩
    walk_at "m go"
    exact ⟨_,_,_,_,_,rfl,hF.stepG (of_decide_eq_true (by assumption)) (by assumption)⟩
   ·refine ⟨by exact nC ‹_› ‹_› (by decide),rfl,?_⟩
    walk_at "m go"
    exact ⟨_,_,_,_,_,rfl,hF.stepF (of_decide_eq_true (by assumption)) (by assumption)⟩
  ·exact ⟨_,_,_,_,_,rfl,hF.stepN (of_decide_eq_false (by assumption))⟩
 ·rintro σ ⟨v4,v5,v6,F,G,rfl,hF⟩
  walk_at "m go"
  have h5:F.length ≤ 5:=nodup_sub_len (m:=[0,1,2,3,4]) hF.nf fun k hk=>by
   obtain ⟨t,ht,h1,h2,_⟩:=(hF.mf k).mp hk
   have:=hd t ht
   have:k = 0 ∨ k = 1 ∨ k = 2 ∨ k = 3 ∨ k = 4:=by lia
   simpa using this
  have h6:1 ≤ G.length:=by
   obtain ⟨t,ht,h1,h2⟩:=h4
   exact List.length_pos_of_mem ((hF.mg t.r.dst).mpr ⟨t,ht,rfl,h1,h2⟩)
  refine wp_diff (wp_get (by exact rfl) rfl (wp_get (by exact rfl) rfl ⟨F,G,rfl,rfl,hF.nf,by lia,rfl,rfl,_,rfl,fun k=>?_⟩))
  rw [List.mem_filter,hF.mf]
  unfold IsCtr
  rw [← hF.mg]
  simp
noncomputable def addP (ps:List PI) (p:PI):List PI:=if p ∈ ps then ps else ps ++ [p]
noncomputable def addO (ps:List PI):Option PI -> List PI
 | some p=>addP ps p
 | none=>ps
noncomputable def nubO (l:List (Option PI)):List PI:=l.foldl addO []
theorem addP_mem {ps:List PI} {p q:PI}:q ∈ addP ps p ↔ q = p ∨ q ∈ ps:=by
 unfold addP
 split
 ·rename_i h
  exact ⟨fun x=>.inr x,fun x=>x.elim (fun e=>e ▸ h) id⟩
 ·simp [or_comm]
theorem addO_len {ps:List PI} {o:Option PI}:(addO ps o).length ≤ ps.length + 1:=by
 cases o with
 | none=>exact Nat.le_succ _
 | some p =>
  show (addP ps p).length ≤ _
  unfold addP
  split
  ·(exact Nat.le_succ _)
  ·rw [List.length_append]; exact Nat.le_refl _
theorem nubO_len (l:List (Option PI)):(nubO l).length ≤ l.length:=by
 have:∀ (l:List (Option PI)) (ps:List PI),(l.foldl addO ps).length ≤ ps.length + l.length:=by
  intro l
  induction l with
  | nil=>intro ps; exact Nat.le_refl _
  | cons o l ih=>intro ps; have:=ih (addO ps o); have:=addO_len (ps:=ps) (o:=o); rw [List.foldl_cons,List.length_cons]; (exact uG ‹_› ‹_›)
 have:=this l []
 rw [List.length_nil] at this
 unfold nubO; lia
theorem nubO_mem {l:List (Option PI)} {p:PI}:p ∈ nubO l ↔ some p ∈ l:=by
 have:∀ (l:List (Option PI)) (ps:List PI),p ∈ l.foldl addO ps ↔ p ∈ ps ∨ some p ∈ l:=by
  intro l
  induction l with
  | nil=>intro ps; simp
  | cons o l ih =>
   intro ps
   rw [List.foldl_cons,ih]
   cases o with
   | none=>simp [addO]
   | some q =>
    show p ∈ addP ps q ∨ _ ↔ _; rw [addP_mem]; simp only [List.mem_cons,Option.some.injEq]; constructor
    ·rintro ((h | h) | h)
     ·exact .inr (.inl h)
     ·exact .inl h
     ·exact .inr (.inr h)
    ·rintro (h | h | h)
     ·exact .inl (.inr h)
     ·exact .inl (.inl h)
     ·exact .inr h
 have:=this l []
 simpa [nubO] using this
theorem nubO_nodup (l:List (Option PI)):(nubO l).Nodup:=by
 have:∀ (l:List (Option PI)) (ps:List PI),ps.Nodup -> (l.foldl addO ps).Nodup:=by
  intro l
  induction l with
  | nil=>intro ps h; exact h
  | cons o l ih =>
   intro ps h
   rw [List.foldl_cons]
   refine ih _ ?_
   cases o with
   | none=>exact h
   | some p =>
    show (addP ps p).Nodup
    unfold addP
    split
    ·exact h
    ·rename_i hk
     rw [List.nodup_append]
     exact ⟨h,by simp,fun a ha b hb=>by rw [List.mem_singleton.mp hb]; rintro rfl; exact hk ha⟩
 exact this l [] .nil
theorem nubO_app {l:List (Option PI)} {o:Option PI}:nubO (l ++ [o]) = addO (nubO l) o:=by
 unfold nubO; rw [List.foldl_append]; rfl
noncomputable def keyP (p:PI):List Int:=[p.1,p.2]
theorem keyP_inj {p q:PI}:keyP p = keyP q ↔ p = q:=by
 constructor
 ·intro h; simp only [keyP,List.cons.injEq,and_true] at h; exact Prod.ext h.1 h.2
 ·rintro rfl; rfl
noncomputable def dctP (f:PI -> V) (ps:List PI):List (List Int × V):=ps.map fun p=>(keyP p,f p)
theorem putK_dctP {f:PI -> V} {ps:List PI} {p:PI}:putK (dctP f ps) (keyP p) (f p) = dctP f (addP ps p):=by
 unfold putK addP dctP
 have:((ps.map fun p=>(keyP p,f p)).any fun e=>decide (e.1 = keyP p)) = decide (p ∈ ps):=by
  rw [Bool.eq_iff_iff,List.any_eq_true,decide_eq_true_iff]
  simp only [List.mem_map,decide_eq_true_eq]
  constructor
  ·rintro ⟨x,⟨q,hq,rfl⟩,e⟩
   rw [keyP_inj.mp e] at hq; exact hq
  ·intro h; exact ⟨_,⟨p,h,rfl⟩,rfl⟩
 rw [this]
 split
 ·rename_i h
  rw [if_pos (of_decide_eq_true h),List.map_map]
  apply List.map_congr_left
  intro q _
  dsimp only [Function.comp]
  split
  ·rename_i e; rw [keyP_inj.mp e]
  ·rfl
 ·rename_i h
  rw [if_neg (fun z=>h (decide_eq_true z)),List.map_append]; rfl
theorem keysP_dctP {f:PI -> V} (ps:List PI):keysP (dctP f ps) = some ps:=by
 induction ps with
 | nil=>rfl
 | cons p ps ih =>
  show (keysP (dctP f ps)).map ((p.1,p.2) :: ·) = _
  rw [ih]; rfl
theorem getK_dctP {f:PI -> V} {ps:List PI} {p:PI} (h:p ∈ ps):getK (dctP f ps) (keyP p) = some (f p):=by
 unfold getK dctP
 induction ps with
 | nil=>cases h
 | cons q ps ih =>
  rw [List.map_cons,List.find?_cons]
  by_cases e:q = p
  ·subst e; simp
  ·have:¬ keyP q = keyP p:=fun z=>e (keyP_inj.mp z)
   simp only [this,decide_false]
   exact ih ((List.mem_cons.mp h).resolve_left fun z=>e z.symm)
theorem getK_dctP_none {f:PI -> V} {ps:List PI} {p:PI} (h:p ∉ ps):getK (dctP f ps) (keyP p) = none:=by
 unfold getK dctP
 have:(ps.map fun p=>(keyP p,f p)).find? (fun e=>decide (e.1 = keyP p)) = none:=by
  rw [List.find?_eq_none]
  rintro x hx z
  obtain ⟨q,hq,rfl⟩:=List.mem_map.mp hx
  rw [keyP_inj.mp (of_decide_eq_true z)] at hq
  exact h hq
 rw [this]; rfl
theorem truth_lst {σ:St} {vs:List V} (h:vs.length < lid):V.truth σ (.lst vs) = some (!vs.isEmpty):=by
 exact if_pos h
noncomputable def mulsOf (ts:List Trip):List Trip:=ts.filter fun t=>t.r.op.is .mul
theorem g_products_in_is {w:O} {k:Int} {L:List Row} {Ss:List (List Row)} (ts:List Trip) (hl:ts.length < 60) (hok:∀ t ∈ ts,tripOk Ss t) (hd:∀ t ∈ ts,t.r.dst < 5) (h4:∃ t ∈ ts,0 ≤ t.r.dst ∧ (growOf Ss t).isNone = true) (hmul:∃ t ∈ ts,t.r.op.is .mul = true) :
  ∃ v H',g_products_in [.obj true 87 1,.lst (ts.map tripV)] (lawHeap w k L Ss) = some (v,H') ∧ H' = lawHeap w k L Ss ∧ ∃ ks,(∀ k,k ∈ ks ↔ IsCtr Ss ts k) ∧ v = .lst ((sortP (nubO ((mulsOf ts).map fun t=>productOf t.r ks))).map pairV):=by
 refine run_of ?_
 unfold m_products_in
 walk_at "m go"
 refine wp_compM tripV ts (fun pre out σ=>∃ v,σ = ⟨[.undef,v],[],lawHeap w k L Ss⟩ ∧ out = (mulsOf pre).map tripV) ⟨_,rfl,rfl⟩ ?_ ?_
 ·rintro pre t post out σ e ⟨v,rfl,rfl⟩
  unfold mulsOf
  walk_at "m go"
  refine ansX (idx_tup (k:=2) (by decide) rfl) ?_
  walk_at "m go"
  ·exact ⟨_,rfl,by rw [List.filter_append,List.map_append,List.filter_cons_of_pos (by assumption)]; rfl⟩
  ·exact ⟨_,rfl,by rw [List.filter_append,List.filter_cons_of_neg (by rw [‹t.r.op.is Op.mul = false›]; decide),List.filter_nil,List.append_nil]⟩
 rintro out σ ⟨v,rfl,rfl⟩
 have hml:(mulsOf ts).length < 60:=Nat.lt_of_le_of_lt (List.length_filter_le _ _) hl
 have he:((mulsOf ts).map tripV).isEmpty = false:=by
  obtain ⟨t,ht,h⟩:=hmul
  have:t ∈ mulsOf ts:=List.mem_filter.mpr ⟨ht,h⟩
  cases e:mulsOf ts with
  | nil=>rw [e] at this; cases this
  | cons=>rfl
 walk_at "m go"
 refine ansX (truth_lst (by rw [List.length_map]; unfold lid; (exact nA ‹_› (by decide)))) ?_
 rw [he]
 refine iteF rfl ?_
 walk_at "m go"
 refine ⟨by repeat' first | exact rfl | exact cl_trip _ | apply clL_cons,?_⟩
 obtain ⟨v',H',e,rfl,ks,rfl,hks⟩:=g_counters_of_is (w:=w) (k:=k) (L:=L) ts (by exact nA ‹_› (by decide)) hok hd h4
 refine callX e ?_
 walk_at "m go"
 refine ws_forI tripV (mulsOf ts) (fun pre σ=>Ex4 fun v5 v6 v7 v8=>σ = ⟨[.obj true 87 1,.lst (ts.map tripV),.lst ((mulsOf ts).map tripV),.set ks,.ref false 0,v5,v6,v7,v8,.undef,.undef,.undef],[.dctT (dctP (fun _=>.bool true) (nubO (pre.map fun t=>productOf t.r ks)))],lawHeap w k L Ss⟩) ⟨_,_,_,_,rfl⟩ ?_ ?_
 ·rintro pre t post σ e2 ⟨v5,v6,v7,v8,rfl⟩
  have hpl:pre.length < 60:=by have:=hml; rw [e2] at this; simp at this; (exact nH ‹_› (by decide))
  have hnl:=nubO_len (pre.map fun t=>productOf t.r ks)
  rw [List.length_map] at hnl
  rw [List.map_append,List.map_cons,List.map_nil,nubO_app]
  walk_at "m go"
  refine callX (g_product_of_is _ _ _) ?_
  cases hp:productOf t.r ks with
  | none =>
   walk_at "m go"
   exact ⟨_,_,_,_,rfl⟩
  | some p =>
   walk_at "m go"
   refine ⟨by unfold dctP; rw [List.length_map]; unfold lid; (exact nC ‹_› ‹_› (by decide)),(fun h=>bF h),keyP p,rfl,?_⟩
   rw [show putK (dctP (fun _=>V.bool true) (nubO (pre.map fun t=>productOf t.r ks))) (keyP p) (V.bool true) = dctP (fun _=>V.bool true) (addP (nubO (pre.map fun t=>productOf t.r ks)) p) from putK_dctP (f:=fun _=>.bool true)]
   walk_at "m go"
   exact ⟨_,_,_,_,rfl⟩
 ·refine xe4 fun v5 v6 v7 v8=>?_
  have hnl:=nubO_len ((mulsOf ts).map fun t=>productOf t.r ks)
  rw [List.length_map] at hnl
  walk_at "m go"
  exact ⟨_,keysP_dctP _,by exact nC ‹_› ‹_› (by decide),cl_pair _,rfl,ks,hks,rfl⟩
theorem intsOf_map {α:Type} (f:α -> Int) (l:List α):intsOf (l.map fun a=>V.int (f a)) = some (l.map f):=by
 induction l with
 | nil=>rfl
 | cons a l ih=>exact omap_of ih
theorem dedupI_mem {l:List Int} {k:Int}:k ∈ dedupI l ↔ k ∈ l:=by
 have:∀ (l acc:List Int),k ∈ l.foldl step_dedup acc ↔ k ∈ acc ∨ k ∈ l:=by
  intro l
  induction l with
  | nil=>intro acc; simp
  | cons a l ih =>
   intro acc
   rw [List.foldl_cons,ih,dedup_mem]
   simp only [List.mem_cons]
   constructor
   ·rintro ((h | h) | h)
    ·exact .inr (.inl h)
    ·exact .inl h
    ·exact .inr (.inr h)
   ·rintro (h | h | h)
    ·exact .inl (.inr h)
    ·exact .inl (.inl h)
    ·exact .inr h
 have:=this l []
 simpa [dedupI] using this
noncomputable def heldV (reg:PI -> Int) (ps:List PI):V:=.dctT (dctP (fun p=>.int (reg p)) ps)
noncomputable def ctrsOf (ps:List PI):List Int:=dedupI ((sortP ps).map (·.1))
theorem sortP_mem {ps:List PI} {p:PI}:p ∈ sortP ps ↔ p ∈ ps:=(sortP_perm ps).mem_iff
theorem sortP_len {ps:List PI}:(sortP ps).length = ps.length:=(sortP_perm ps).length_eq
theorem ctrsOf_mem {ps:List PI} {k:Int}:k ∈ ctrsOf ps ↔ ∃ p ∈ ps,p.1 = k:=by
 unfold ctrsOf
 rw [dedupI_mem,List.mem_map]
 simp only [sortP_mem]
theorem dctP_clean (reg:PI -> Int) (ps:List PI):cleanT (dctP (fun p=>.int (reg p)) ps) = true:=by
 unfold dctP
 induction ps with
 | nil=>rfl
 | cons p ps ih=>exact ih
theorem held_clean (reg:PI -> Int) (ps:List PI):(heldV reg ps).clean = true:=dctP_clean reg ps
theorem g_held_counters_is (reg:PI -> Int) (ps:List PI) (hl:ps.length < 60) (H:List O):g_held_counters [heldV reg ps] H = some (.set (ctrsOf ps),H):=by
 refine run_eq ?_
 unfold m_held_counters
 walk_at "m go"
 refine ⟨ps,keysP_dctP ps,by exact nA ‹_› (by decide),?_⟩
 walk_at "m go"
 refine wp_compM pairV (sortP ps) (fun pre out σ=>Ex2 fun u v=>σ = ⟨[.undef,u,v],[],H⟩ ∧ out = pre.map fun p=>V.int p.1) ⟨_,_,rfl,rfl⟩ ?_ ?_
 ·rintro pre p post out σ e ⟨u,v,rfl,rfl⟩
  walk_at "m go"
  exact ⟨_,_,rfl,by rw [List.map_append]; rfl⟩
 ·rintro out σ ⟨u,v,rfl,rfl⟩
  have:=sortP_len (ps:=ps)
  walk_at "m go"
  refine ⟨_,_,rfl,intsOf_map _ _,by rw [List.length_map]; (exact nF ‹_› ‹_› (by decide)),rfl,rfl,rfl⟩
noncomputable def addsOf (reg:PI -> Int) (ps:List PI) (d g:Int):List Row:=((sortP ps).filter fun p=>decide (p.1 = d)).map fun p=>Row.bin .add (reg p) (.reg (reg p)) (.num (g * p.2 % 4294967296))
theorem held_get {reg:PI -> Int} {ps:List PI} {p:PI} (h:p ∈ ps) {σ:St}:getIdx σ (heldV reg ps) (.tup [.int p.1,.int p.2]) = some (.int (reg p)):=getK_dctP (f:=fun p=>.int (reg p)) h
theorem g_additions_for_is (reg:PI -> Int) (ps:List PI) (r:Row) (g:Int) (hl:ps.length < 60) (hs:∀ p ∈ ps,0 ≤ p.2 ∧ p.2 < 4294967296) (H:List O):g_additions_for [stepV r,.int g,heldV reg ps] H = some (.lst ((addsOf reg ps r.dst g).map stepV),H):=by
 refine run_eq ?_
 unfold m_additions_for
 walk_at "m go"
 refine ⟨ps,keysP_dctP ps,by exact nA ‹_› (by decide),?_⟩
 have hsl:=sortP_len (ps:=ps)
 walk_at "m go"
 refine ws_forI pairV (sortP ps) (fun pre σ=>Ex3 fun v4 v5 v6=>σ = ⟨[stepV r,.int g,heldV reg ps,.ref false 0,v4,v5,v6,.undef,.undef,.undef,.undef],[.list (((pre.filter fun p=>decide (p.1 = r.dst)).map fun p=>Row.bin .add (reg p) (.reg (reg p)) (.num (g * p.2 % 4294967296))).map stepV)],H⟩) ⟨_,_,_,rfl⟩ ?_ ?_
 ·rintro pre p post σ e ⟨v4,v5,v6,rfl⟩
  have hp:p ∈ ps:=sortP_mem.mp (by rw [e]; simp)
  have hpl:pre.length < 60:=by rw [e] at hsl; simp at hsl; (exact nL ‹_› ‹_› (by decide))
  have hfl:=List.length_filter_le (fun p:PI=>decide (p.1 = r.dst)) pre
  walk_at "m go"
  ·refine ansX (held_get hp) ?_
   walk_at "m go"
   refine callX (g_reg_is _ _) ?_
   walk_at "m go"
   refine ansX (op_mul (hs p hp).1 (hs p hp).2) ?_
   walk_at "m go"
   refine callX (g_num_is _ _) ?_
   walk_at "m go"
   refine callX (g_in_place_of_is r (.bin .add (reg p) (.reg (reg p)) (.num (g * p.2 % 4294967296))) (fun h=>by cases h) _) ?_
   walk_at "m go"
   rw [List.filter_append,List.filter_cons_of_pos (by assumption),List.filter_nil,List.map_append,List.map_append (f:=stepV)]
   exact ⟨_,_,_,rfl⟩
  ·rw [List.filter_append,List.filter_cons_of_neg (by rw [‹decide (p.1 = r.dst) = false›]; decide),List.filter_nil,List.append_nil]
   exact ⟨_,_,_,rfl⟩
 ·refine xe3 fun v4 v5 v6=>?_
  walk_at "m go"
  exact ⟨_,_,rfl,cl_step _,rfl,rfl⟩
noncomputable def swapped (reg:PI -> Int) (ps:List PI) (r:Row):Row:=match productOf r (ctrsOf ps) with
 | some p=>if p ∈ ps then .un .copy r.dst (.reg (reg p)) else r
 | none=>r
noncomputable def grownRow (reg:PI -> Int) (ps:List PI) (rows:List Row) (x:Row × Nat):List Row:=swapped reg ps x.1 :: (if (ctrsOf ps).contains x.1.dst then addsOf reg ps x.1.dst ((growthAt rows x.2).getD 0) else [])
noncomputable def grown (reg:PI -> Int) (ps:List PI) (rows:List Row):List Row:=rows.zipIdx.flatMap (grownRow reg ps rows)
theorem addsOf_len {reg:PI -> Int} {ps:List PI} {d g:Int}:(addsOf reg ps d g).length ≤ ps.length:=by
 unfold addsOf
 rw [List.length_map]
 exact Nat.le_trans (List.length_filter_le _ _) (Nat.le_of_eq sortP_len)
theorem flat_len {reg:PI -> Int} {ps:List PI} {rows:List Row} (l:List (Row × Nat)):(l.flatMap (grownRow reg ps rows)).length ≤ l.length * (ps.length + 1):=by
 induction l with
 | nil=>simp
 | cons x l ih =>
  rw [List.flatMap_cons,List.length_append,List.length_cons]
  have:(grownRow reg ps rows x).length ≤ ps.length + 1:=by
   unfold grownRow
   rw [List.length_cons]
   split
   ·have:=addsOf_len (reg:=reg) (ps:=ps) (d:=x.1.dst) (g:=(growthAt rows x.2).getD 0); (exact Nat.lt_succ_of_le ‹_›)
   ·simp
  rw [Nat.add_mul]; lia
theorem ws_setSteps {σ:St} {N:St -> Prop} {R:V -> St -> Prop} {w:O} {k:Int} {L:List Row} {Ss:List (List Row)} {m:Nat} {S S':List Row} {i:Nat} {me:AM V} (hi:σ.loc[i]? = some (.obj true 66 (5 + m))) (hH:σ.heap = lawHeap w k L Ss) (hS:Ss[m]? = some S)
  (h:wp me σ fun v σ1=>v = .lst (S'.map stepV) ∧ σ1 = ⟨σ.loc,σ1.tmp,σ.heap⟩ ∧ N ⟨σ.loc,σ1.tmp,lawHeap w k L (Ss.set m S')⟩):ws (sAttr 66 "steps" (mGet i) me) σ N R:=by
 refine ws_attr (wp_mono h fun v σ1 q9_=>?_); obtain ⟨ev,e1,q⟩:=q9_
 have hl:σ1.loc[i]? = some (.obj true 66 (5 + m)):=by rw [e1]; exact hi
 subst ev
 refine wp_get hl rfl ⟨rfl,wu_setAt (fs:=blockF ((m + 1:Nat):Int) (.lst (S.map stepV))) ?_ (of_decide_eq_true rfl) (fun _=>cl_step _) ?_⟩
 ·show σ1.heap[5 + m]? = _
  rw [e1]; show σ.heap[5 + m]? = _; rw [hH]; exact lawHeap_blk hS
 ·have:σ1.put true (5 + m) (.inst (putF "steps" (.lst (S'.map stepV)) (blockF ((m + 1:Nat):Int) (.lst (S.map stepV))))) = ⟨σ.loc,σ1.tmp,lawHeap w k L (Ss.set m S')⟩:=by
   rw [e1]
   show St.mk σ.loc σ1.tmp (σ.heap.set (5 + m) (.inst (blockF ((m + 1:Nat):Int) (.lst (S'.map stepV))))) = _
   rw [hH,lawHeap_set hS]
  rw [this]; exact q
theorem range_len {many m:Nat} {pre post:List Nat} (e:List.range' 1 many = pre ++ (m + 1) :: post):pre.length = m:=by
 have h:(List.range' 1 many)[pre.length]? = some (m + 1):=by rw [e,List.getElem?_append_right (Nat.le_refl _),Nat.sub_self]; rfl
 have hl:pre.length < many:=by
  have:=congrArg List.length e
  rw [List.length_range',List.length_append,List.length_cons] at this
  (exact nM ‹_›)
 rw [List.getElem?_range' hl] at h
 have:=Option.some.inj h
 lia
theorem zip_mem {S:List Row} {pr ps:List (Row × Nat)} {x:Row × Nat} (e:S.zipIdx 0 = pr ++ x :: ps):S[x.2]? = some x.1:=by
 have:x ∈ S.zipIdx 0:=by rw [e]; simp
 exact List.mem_zipIdx_iff_getElem?.mp this
theorem in_held {reg:PI -> Int} {ps:List PI} {p:PI} {σ:St}:cIn σ (pairV p) (heldV reg ps) = some (decide (p ∈ ps)):=by
 show some (getK (dctP (fun p=>V.int (reg p)) ps) (keyP p)).isSome = _
 by_cases h:p ∈ ps
 ·rw [getK_dctP (f:=fun p=>V.int (reg p)) h,decide_eq_true h]; rfl
 ·rw [getK_dctP_none h,decide_eq_false h]; rfl
theorem grown_next {reg:PI -> Int} {ps:List PI} {S:List Row} {pr:List (Row × Nat)} {x:Row × Nat} {q:Row} {as:List Row} (hq:q = swapped reg ps x.1) (ha:as = if (ctrsOf ps).contains x.1.dst then addsOf reg ps x.1.dst ((growthAt S x.2).getD 0) else []) :
  ((pr ++ [x]).flatMap (grownRow reg ps S)).map stepV = (pr.flatMap (grownRow reg ps S)).map stepV ++ [stepV q] ++ as.map stepV:=by
 subst hq; subst ha
 rw [List.flatMap_append,List.flatMap_cons,List.flatMap_nil,List.append_nil,List.map_append]
 unfold grownRow
 rw [List.map_cons,List.append_assoc]
 rfl
theorem swapped_none {reg:PI -> Int} {ps:List PI} {r:Row} (h:productOf r (ctrsOf ps) = none):r = swapped reg ps r:=by unfold swapped; rw [h]
theorem swapped_out {reg:PI -> Int} {ps:List PI} {r:Row} {p:PI} (h:productOf r (ctrsOf ps) = some p) (hp:p ∉ ps):r = swapped reg ps r:=by unfold swapped; rw [h]; exact (if_neg hp).symm
theorem swapped_in {reg:PI -> Int} {ps:List PI} {r:Row} {p:PI} (h:productOf r (ctrsOf ps) = some p) (hp:p ∈ ps):.un .copy r.dst (.reg (reg p)) = swapped reg ps r:=by unfold swapped; rw [h]; exact (if_pos hp).symm
theorem last_get {T:List O} {x:O}:(T ++ [x])[T.length]? = some x:=List.getElem?_concat_length
theorem last_set {T:List O} {x y:O}:(T ++ [x]).set T.length y = T ++ [y]:=by
 rw [List.set_append_right _ _ (Nat.le_refl _),Nat.sub_self]; rfl
theorem last_frz {l:List V} {T:List O} {vs:List V} {h:List O}:frzV (.ref false T.length) ⟨l,T ++ [.list vs],h⟩ = some (.lst vs,⟨l,T ++ [.dead],h⟩):=by
 refine (frz_list (show (St.sel ⟨l,T ++ [.list vs],h⟩ false)[T.length]? = some (.list vs) from last_get)).trans ?_
 exact congrArg (fun t=>some (V.lst vs,St.mk l t h)) last_set
noncomputable def gaTail:AM AFlow:=(sSeq (sIf (tCmp cIn (mAttr 45 1 "dst" (mGet 8)) (mGet 3)) (sSeq (sExpr (mExt (mGet 6) (mCall g_additions_for [(mGet 8),(mCall g_growth_at [(mAttr 66 1 "steps" (mGet 5)),(mGet 7)]),(mGet 2)]))) sNil) sNil) sNil)
noncomputable def gaL (many m n:Nat) (reg:PI -> Int) (ps:List PI) (v7 v8 v9:V):List V:=[.obj true 87 1,loopV many,heldV reg ps,.set (ctrsOf ps),.int ((m + 1:Nat):Int),.obj true 66 (5 + m),.ref false n,v7,v8,v9,.undef,.undef,.undef,.undef,.undef,.undef,.undef,.undef]
noncomputable def addsAtR (reg:PI -> Int) (ps:List PI) (S:List Row) (r:Row) (p:Nat):List Row:=if (ctrsOf ps).contains r.dst then addsOf reg ps r.dst ((growthAt S p).getD 0) else []
section
variable {w:O} {k:Int} {L:List Row} {Ts:List (List Row)} {many m:Nat} {reg:PI -> Int} {ps:List PI} {S:List Row} {T:List O} {N:St -> Prop} {R:V -> St -> Prop}
theorem ga_tail {r:Row} {p:Nat} {v9:V} {q:List V} (hl:ps.length < 60) (hs:∀ p ∈ ps,0 ≤ p.2 ∧ p.2 < 4294967296) (hmap:Ts[m]? = some S) (hrp:S[p]? = some r) (hSl:S.length < 200) (hgr:r.dst ∈ ctrsOf ps -> (growthAt S p).isSome = true) (hq:q.length < 20000)
  (h:N ⟨gaL many m T.length reg ps (.int p) (stepV r) v9,T ++ [.list (q ++ (addsAtR reg ps S r p).map stepV)],lawHeap w k L Ts⟩):ws gaTail ⟨gaL many m T.length reg ps (.int p) (stepV r) v9,T ++ [.list q],lawHeap w k L Ts⟩ N R:=by
 have hat:∀ loc t,attrOf 66 1 "steps" ⟨loc,t,lawHeap w k L Ts⟩ (.obj true 66 (5 + m)) = some (.lst (S.map stepV)):=fun loc t=>attr_obj (fs:=blockF ((m + 1:Nat):Int) (.lst (S.map stepV))) (lawHeap_blk hmap) rfl
 unfold addsAtR at h
 unfold gaTail gaL
 walk_at "m go"
 ·have hc:(ctrsOf ps).contains r.dst = true:=by assumption
  obtain ⟨g,hgg⟩:=Option.isSome_iff_exists.mp (hgr (List.contains_iff_mem.mp hc))
  have hal:=addsOf_len (reg:=reg) (ps:=ps) (d:=r.dst) (g:=g)
  rw [if_pos hc,hgg] at h
  refine ⟨⟨_,last_get⟩,?_⟩
  walk_at "m go"
  refine wp_attr (wp_get (by exact rfl) rfl (ansX (hat _ _) ?_))
  walk_at "m go"
  refine callX (g_growth_at_is S p r hrp hSl _) ?_
  rw [hgg]
  walk_at "m go"
  refine ⟨by repeat' first | exact rfl | exact step_clean _ | exact opt_clean _ | exact held_clean _ _ | apply clL_cons,?_⟩
  refine callX (g_additions_for_is reg ps r g hl hs _) ?_
  refine ⟨_,_,last_get,rfl,?_⟩
  walk_at "m go"
  rw [show St.put _ false T.length (.list _) = _ from congrArg (fun t=>St.mk _ t _) last_set]
  exact h
 ·have hc:(ctrsOf ps).contains r.dst = false:=by assumption
  rw [if_neg (by rw [hc]; exact Bool.false_ne_true),List.map_nil,List.append_nil] at h
  exact h
theorem ga_row {pr:List (Row × Nat)} {r:Row} {p:Nat} {v7 v8 v9:V} (hl:ps.length < 60) (hs:∀ p ∈ ps,0 ≤ p.2 ∧ p.2 < 4294967296) (hmap:Ts[m]? = some S) (hrp:S[p]? = some r) (hSl:S.length < 200) (hgr:r.dst ∈ ctrsOf ps -> (growthAt S p).isSome = true)
  (hfl:(pr.flatMap (grownRow reg ps S)).length ≤ 200 * 61) {body:AM AFlow} (hb:body = (sSeq (sSet 9 (mCall g_product_of [(mGet 8),(mGet 3)])) (sSeq (sIf (tAnd [(tCmp cIsNot (mGet 9) (pure .none)),(tCmp cIn (mGet 9) (mGet 2))]) (sSeq (sExpr (mApp (mGet 6) (mCall g_in_place_of [(mGet 8),(pure (.str "copy")),(mAttr 45 1 "dst" (mGet 8)),(mLstF [(mCall g_reg [(mIdx (mGet 2) (mGet 9))])]),(pure (.int 0))]))) sNil) (sSeq (sExpr (mApp (mGet 6) (mGet 8))) sNil)) gaTail)))
  (h:∀ v9,N ⟨gaL many m T.length reg ps (.int p) (stepV r) v9,T ++ [.list (((pr ++ [(r,p)]).flatMap (grownRow reg ps S)).map stepV)],lawHeap w k L Ts⟩) :
  wp (tTup [tName 7,tName 8] (V.tup [.int (p:Nat),stepV r])) ⟨gaL many m T.length reg ps v7 v8 v9,T ++ [.list ((pr.flatMap (grownRow reg ps S)).map stepV)],lawHeap w k L Ts⟩ fun _ σ1=>ws body σ1 N R:=by
 have fin:∀ (v9:V) (q:Row),q = swapped reg ps r -> ws gaTail ⟨gaL many m T.length reg ps (.int p) (stepV r) v9,T ++ [.list ((pr.flatMap (grownRow reg ps S)).map stepV ++ [stepV q])],lawHeap w k L Ts⟩ N R:=fun v9 q hq=>by
  refine ga_tail hl hs hmap hrp hSl hgr (by simp only [List.length_append,List.length_map,List.length_singleton]; lia) ?_
  rw [← grown_next (x:=(r,p)) (q:=q) (as:=addsAtR reg ps S r p) hq rfl]
  exact h v9
 subst hb
 unfold gaL
 walk_at "m go"
 refine callX (g_product_of_is _ _ _) ?_
 cases hp:productOf r (ctrsOf ps) with
 | none =>
  walk_at "m go"
  refine ⟨⟨_,last_get⟩,?_⟩
  walk_at "m go"
  refine ⟨_,last_get,?_⟩
  walk_at "m go"
  rw [show St.put _ false T.length (.list _) = _ from congrArg (fun t=>St.mk _ t _) last_set]
  exact fin _ r (swapped_none hp)
 | some q =>
  by_cases hq:q ∈ ps
  ·walk_at "m go"
   refine ansX (in_held (p:=q)) ?_
   rw [decide_eq_true hq]
   walk_at "m go"
   refine ⟨⟨_,last_get⟩,?_⟩
   walk_at "m go"
   refine ansX (held_get (p:=q) hq) ?_
   walk_at "m go"
   refine callX (g_reg_is _ _) ?_
   walk_at "m go"
   refine callX (g_in_place_of_is r (.un .copy r.dst (.reg (reg q))) (fun h=>by cases h) _) ?_
   refine ⟨_,last_get,?_⟩
   walk_at "m go"
   rw [show St.put _ false T.length (.list _) = _ from congrArg (fun t=>St.mk _ t _) last_set]
   exact fin _ (.un .copy r.dst (.reg (reg q))) (swapped_in hp hq)
  ·walk_at "m go"
   refine ansX (in_held (p:=q)) ?_
   rw [decide_eq_false hq]
   walk_at "m go"
   refine ⟨⟨_,last_get⟩,?_⟩
   walk_at "m go"
   refine ⟨_,last_get,?_⟩
   walk_at "m go"
   rw [show St.put _ false T.length (.list _) = _ from congrArg (fun t=>St.mk _ t _) last_set]
   exact fin _ r (swapped_out hp hq)
end
theorem g_grown_along_is {w:O} {k:Int} {L:List Row} {Ss:List (List Row)} {many:Nat} (reg:PI -> Int) (ps:List PI) (hm:many ≤ 3) (hS:many ≤ Ss.length) (hl:ps.length < 60) (hs:∀ p ∈ ps,0 ≤ p.2 ∧ p.2 < 4294967296) (h200:∀ S ∈ Ss,S.length < 200)
  (hg:∀ m S p r,m < many -> Ss[m]? = some S -> S[p]? = some r -> r.dst ∈ ctrsOf ps -> (growthAt S p).isSome = true) :
  g_grown_along [.obj true 87 1,loopV many,heldV reg ps] (lawHeap w k L Ss) = some (.none,lawHeap w k L (Ss.zipIdx.map fun x=>if x.2 < many then grown reg ps x.1 else x.1)):=by
 refine run_eq ?_
 unfold m_grown_along
 walk_at "m go"
 refine ⟨by repeat' first | exact rfl | exact held_clean _ _ | apply clL_cons,?_⟩
 refine callX (g_held_counters_is reg ps hl _) ?_
 walk_at "m go"
 refine wp_loop (by exact rfl) hm ?_
 walk_at "m go"
 refine ws_forI (fun n:Nat=>V.int n) (List.range' 1 many) (fun pre σ=>Ex6 fun v4 v5 v6 v7 v8 v9=>σ = ⟨[.obj true 87 1,loopV many,heldV reg ps,.set (ctrsOf ps),v4,v5,v6,v7,v8,v9,.undef,.undef,.undef,.undef,.undef,.undef,.undef,.undef],List.replicate pre.length .dead,lawHeap w k L (Ss.zipIdx.map fun x=>if x.2 < pre.length then grown reg ps x.1 else x.1)⟩) ⟨_,_,_,_,_,_,by simp; rfl⟩ ?_ ?_
 ·rintro pre n post σ e ⟨v4,v5,v6,v7,v8,v9,rfl⟩
  obtain ⟨m,S,rfl,hmm,hSm⟩:=range_mem hS e
  have hpm:pre.length = m:=range_len e
  have hmap:(Ss.zipIdx.map fun x=>if x.2 < m then grown reg ps x.1 else x.1)[m]? = some S:=by
   rw [List.getElem?_map,List.getElem?_zipIdx,hSm]; simp
  have hnext:(Ss.zipIdx.map fun x=>if x.2 < m then grown reg ps x.1 else x.1).set m (grown reg ps S) = Ss.zipIdx.map fun x=>if x.2 < m + 1 then grown reg ps x.1 else x.1:=by
   apply List.ext_getElem?
   intro i
   have hml:m < Ss.length:=(List.getElem?_eq_some_iff.mp hSm).1
   rw [List.getElem?_set,List.getElem?_map,List.getElem?_map,List.getElem?_zipIdx,List.length_map,List.length_zipIdx]
   by_cases h:m = i
   ·subst h
    rw [if_pos rfl,if_pos hml,hSm]; simp
   ·rw [if_neg h]
    cases Ss[i]? with
    | none=>rfl
    | some T =>
     simp only [Option.map_some,Nat.zero_add]
     by_cases hi:i < m
     ·rw [if_pos hi,if_pos (by exact Nat.lt_succ_of_lt ‹_›)]
     ·rw [if_neg hi,if_neg (by lia)]
  have hlen2:(pre ++ [m + 1]).length = m + 1:=by simp [hpm]
  rw [hlen2,hpm,← hnext]
  generalize (Ss.zipIdx.map fun x=>if x.2 < m then grown reg ps x.1 else x.1) = Ts at hmap
  have hSl:S.length < 200:=h200 S (List.mem_of_getElem? hSm)
  have hgm:=fun p r=>hg m S p r hmm hSm
  have hTl:m < Ts.length:=(List.getElem?_eq_some_iff.mp hmap).1
  clear hlen2 hnext hSm e
  have hrep:List.replicate (m + 1) O.dead = List.replicate m O.dead ++ [.dead]:=List.replicate_succ'
  rw [hrep]
  have hT:(List.replicate m O.dead).length = m:=List.length_replicate
  generalize List.replicate m O.dead = T at hT
  walk_at "m go"
  refine wp_attr (wp_get (by exact rfl) rfl (ansX (attr_obj (fs:=funcF k) (by exact rfl) rfl) (wp_get (by exact rfl) rfl (ansX (idx_ref (vs:=blockRefs Ts.length) (k:=m + 1) (by exact rfl) (by lia) (refs_get hTl)) ?_))))
  have hat:∀ loc t,attrOf 66 1 "steps" ⟨loc,t,lawHeap w k L Ts⟩ (.obj true 66 (5 + m)) = some (.lst (S.map stepV)):=fun loc t=>attr_obj (fs:=blockF ((m + 1:Nat):Int) (.lst (S.map stepV))) (lawHeap_blk hmap) rfl
  walk_at "m go"
  refine wp_attr (wp_get (by exact rfl) rfl (ansX (hat _ _) ?_))
  walk_at "m go"
  rw [enum_is]
  refine ws_forI (fun x:Row × Nat=>V.tup [.int (x.2:Nat),stepV x.1]) (S.zipIdx 0) (fun pr σ=>Ex3 fun v7 v8 v9=>σ = ⟨gaL many m T.length reg ps v7 v8 v9,T ++ [.list ((pr.flatMap (grownRow reg ps S)).map stepV)],lawHeap w k L Ts⟩) ⟨_,_,_,rfl⟩ ?_ ?_
  ·rintro pr ⟨r,p⟩ pst σ e2 ⟨v7,v8,v9,rfl⟩
   have hfl:(pr.flatMap (grownRow reg ps S)).length ≤ 200 * 61:=by
    have h1:=flat_len (reg:=reg) (ps:=ps) (rows:=S) pr
    have h2:pr.length ≤ 200:=by have:=congrArg List.length e2; simp at this; lia
    exact Nat.le_trans h1 (Nat.mul_le_mul h2 (by exact Nat.lt_succ_of_lt ‹_›))
   exact ga_row hl hs hmap (zip_mem e2) hSl (hgm p r (zip_mem e2)) hfl rfl fun v9=>⟨_,_,v9,rfl⟩
  ·refine xe3 fun v7 v8 v9=>?_
   exact ws_seq (ws_setSteps (m:=m) (S:=S) (S':=grown reg ps S) (by exact rfl) (by exact rfl) hmap (wp_frz (wp_get (by exact rfl) rfl ⟨_,_,last_frz,rfl,rfl,ws_nil ⟨_,_,_,_,_,_,rfl⟩⟩)))
 ·refine xe6 fun v4 v5 v6 v7 v8 v9=>?_
  have hr:(List.range' 1 many).length = many:=by simp
  rw [hr]
  walk_at "m go"
noncomputable def regOf (ps:List PI) (p:PI):Int:=5 + (ps.idxOf p:Nat)
noncomputable def mulRow (ps:List PI) (p:PI):Row:=.bin .mul (regOf ps p) (.reg p.1) (.num (p.2 % 4294967296))
noncomputable def grownAll (ps:List PI) (many:Nat) (Ss:List (List Row)):List (List Row):=Ss.zipIdx.map fun x=>if x.2 < many then grown (regOf ps) ps x.1 else x.1
theorem regOf_at {ps pre post:List PI} {p:PI} (nd:ps.Nodup) (e:ps = pre ++ p :: post):regOf ps p = 5 + (pre.length:Nat):=by
 have hp:p ∉ pre:=by
  rw [e,List.nodup_append] at nd
  exact fun h=>nd.2.2 p h p (by simp) rfl
 unfold regOf
 rw [e,List.idxOf_append,if_neg hp]
 simp
theorem heap_app {w:O} {k:Int} {L:List Row} {Ss:List (List Row)} {r:Row}:(lawHeap w k L Ss).set 4 (.list (L.map stepV ++ [stepV r])) = lawHeap w k (L ++ [r]) Ss:=by
 unfold lawHeap
 rw [List.map_append]
 rfl
theorem stepF_is (o:Op) (d:Int) (as:List Arg) (r:Row) (ho:r.op = o) (hc:o ≠ .call) (hd:r.dst = d) (ha:r.args = as):V.inst 45 (stepF (.str o.s) (.int d) (.lst (as.map argV)) (.int 0)) = stepV r:=by
 subst ho; subst hd; subst ha
 unfold stepV moreV stepF
 rw [if_neg hc]
theorem g_multiply_ahead_is {w:O} {L:List Row} {Ss:List (List Row)} {many:Nat} (ps:List PI) (nd:ps.Nodup) (hm:many ≤ 3) (hS:many ≤ Ss.length) (hl:ps.length < 60) (hs:∀ p ∈ ps,0 ≤ p.2 ∧ p.2 < 4294967296) (hL:L.length < 200) (h200:∀ S ∈ Ss,S.length < 200)
  (hg:∀ m S p r,m < many -> Ss[m]? = some S -> S[p]? = some r -> r.dst ∈ ctrsOf ps -> (growthAt S p).isSome = true) :
  g_multiply_ahead [.obj true 87 1,loopV many,.obj true 66 3,.lst (ps.map pairV)] (lawHeap w 5 L Ss) = some (.none,lawHeap w (5 + (ps.length:Nat)) (L ++ ps.map (mulRow ps)) (grownAll ps many Ss)):=by
 refine run_eq ?_
 unfold m_multiply_ahead
 walk_at "m go"
 refine ws_forI pairV ps (fun pre σ=>Ex4 fun v5 v6 v7 t=>σ = ⟨[.obj true 87 1,loopV many,.obj true 66 3,.lst (ps.map pairV),.ref false 0,v5,v6,v7,.undef,.undef,.undef,.undef],.dctT (dctP (fun p=>.int (regOf ps p)) pre) :: t,lawHeap w (5 + (pre.length:Nat)) (L ++ pre.map (mulRow ps)) Ss⟩) ⟨_,_,_,[],by rw [List.map_nil,List.append_nil]; rfl⟩ ?_ ?_
 ·rintro pre p post σ e ⟨v5,v6,v7,t,rfl⟩
  have hr:=regOf_at nd e
  have hpl:pre.length < 60:=by rw [e] at hl; simp at hl; (exact nH ‹_› (by decide))
  have hnp:p ∉ pre:=by
   rw [e,List.nodup_append] at nd
   exact fun h=>nd.2.2 p h p (by simp) rfl
  have hput:putK (dctP (fun p=>V.int (regOf ps p)) pre) (keyP p) (.int (5 + (pre.length:Nat))) = dctP (fun p=>V.int (regOf ps p)) (pre ++ [p]):=by
   rw [← hr]
   exact (putK_dctP (f:=fun p=>.int (regOf ps p))).trans (by rw [addP,if_neg hnp])
  have e1:(5 + ((pre ++ [p]).length:Nat):Int) = 5 + (pre.length:Nat) + 1:=by simp; (rfl)
  have e2:L ++ (pre ++ [p]).map (mulRow ps) = (L ++ pre.map (mulRow ps)) ++ [mulRow ps p]:=by simp
  have e3:V.inst 45 (stepF (.str "mul") (.int (5 + (pre.length:Nat))) (.lst [argV (.reg p.1),argV (.num (p.2 % 4294967296))]) (.int 0)) = stepV (mulRow ps p):=by
   rw [← hr]
   exact stepF_is .mul _ [.reg p.1,.num (p.2 % 4294967296)] (mulRow ps p) rfl (fun h=>by cases h) rfl rfl
  rw [e1,e2,← heap_app]
  walk_at "m go"
  refine wp_attr (wp_get (by exact rfl) rfl (ansX (attr_obj (fs:=funcF _) (by exact rfl) rfl) ?_))
  refine ws_seq (ws_augA (wp_get (by exact rfl) rfl ⟨_,attr_obj (fs:=funcF _) (by exact rfl) rfl,wp_pure ⟨rfl,_,rfl,wu_setAt (fs:=funcF _) (by exact rfl) (of_decide_eq_true rfl) (fun _=>rfl) ?_⟩⟩))
  walk_at "m go"
  refine ⟨by unfold dctP; rw [List.length_map]; unfold lid; (exact nA ‹_› (by decide)),(fun h=>bF h),keyP p,rfl,?_⟩
  rw [show putK (dctP (fun p=>V.int (regOf ps p)) pre) (keyP p) (.int (5 + (pre.length:Nat))) = _ from hput]
  walk_at "m go"
  refine wp_attr (wp_get (by exact rfl) rfl (ansX (attr_obj (fs:=blockF 0 (.ref true 4)) (by exact rfl) rfl) ?_))
  walk_at "m go"
  refine callX (g_reg_is _ _) ?_
  walk_at "m go"
  refine callX (g_num_is _ _) ?_
  walk_at "m go"
  refine ⟨_,_,_,_,rfl,rfl,rfl,rfl,rfl,?_⟩
  rw [e3]
  walk_at "m go"
  exact ⟨_,_,_,_,rfl⟩
 ·refine xe4 fun v5 v6 v7 t=>?_
  walk_at "m go"
  refine ⟨_,_,rfl,?_⟩
  walk_at "m go"
  refine ⟨clL_cons rfl (clL_cons rfl (clL_cons (held_clean (regOf ps) ps) rfl)),?_⟩
  refine callX (g_grown_along_is (w:=w) (k:=5 + (ps.length:Nat)) (L:=L ++ ps.map (mulRow ps)) (regOf ps) ps hm hS hl hs h200 hg) ?_
  walk_at "m go"
noncomputable def wellO (cells:List Int) (spot:Nat) (s:Int):O:=.list [.lst (cells.map V.int),.int spot,.int s]
noncomputable def IsWell (o:O) (b:Nat):Prop:=Ex3 fun cells spot s=>And3 (o = wellO cells spot s) (cells.length < 1000) (spot ≤ b)
theorem draw_is {o:O} {b:Nat} {size:Int} (hw:IsWell o b) (hb:b < 1000000) (hs:0 < size) (H:List O):∃ x o',g_law_draw [.ref true 0,.int size] (o :: H) = some (.int x,o' :: H) ∧ IsWell o' (b + 1) ∧ 0 ≤ x ∧ x < size:=by
 refine hG9 fun P_ b_=>?_
 obtain ⟨cells,spot,s,rfl,hc,hsp⟩:=hw
 have key:∃ v H',g_law_draw [.ref true 0,.int size] (wellO cells spot s :: H) = some (v,H') ∧ H' = wellO cells (spot + 1) s :: H ∧ ∃ x,And3 (v = .int x) (0 ≤ x) (x < size):=by
  refine run_of ?_
  unfold m_law_draw
  have h0:∀ loc t,getIdx ⟨loc,t,wellO cells spot s :: H⟩ (.ref true 0) (.int 0) = some (.lst (cells.map V.int)):=fun loc t=>idx_ref (k:=0) (vs:=[.lst (cells.map V.int),.int spot,.int s]) rfl (by decide) rfl
  have h1:∀ loc t,getIdx ⟨loc,t,wellO cells spot s :: H⟩ (.ref true 0) (.int 1) = some (.int spot):=fun loc t=>idx_ref (k:=1) (vs:=[.lst (cells.map V.int),.int spot,.int s]) rfl (by decide) rfl
  have h2:∀ loc t,getIdx ⟨loc,t,wellO cells (spot + 1) s :: H⟩ (.ref true 0) (.int 2) = some (.int s):=fun loc t=>idx_ref (k:=2) (vs:=[.lst (cells.map V.int),.int (spot + 1:Nat),.int s]) rfl (by decide) rfl
  walk_at "m go"
  refine ansX (h0 _ _) ?_
  walk_at "m go"
  refine ansX (h1 _ _) ?_
  walk_at "m go"
  refine ⟨⟨by decide,of_decide_eq_true rfl⟩,fun _=>rfl,?_⟩
  walk_at "m go"
  ·have hlt:spot < cells.length:=by
    have h:decide ((spot:Int) < ((cells.map V.int).length:Nat)) = true:=by assumption
    have:=of_decide_eq_true h
    rw [List.length_map] at this
    lia
   refine ansX (getL_of (k:=spot) (v:=.int cells[spot]) (by exact nC ‹_› ‹_› (by decide)) (by rw [List.getElem?_map,List.getElem?_eq_getElem hlt]; rfl)) ?_
   walk_at "m go"
   refine ansX (op_mod hs) ?_
   exact ⟨rfl,rfl,_,rfl,Int.emod_nonneg _ (by lia),Int.emod_lt_of_pos _ hs⟩
  ·refine ansX (op_mul (by decide) (by decide)) ?_
   walk_at "m go"
   refine ansX (h2 _ _) ?_
   walk_at "m go"
   refine ansX (op_mod hs) ?_
   exact ⟨rfl,rfl,_,rfl,Int.emod_nonneg _ (by lia),Int.emod_lt_of_pos _ hs⟩
 obtain ⟨v,H',e,rfl,x,rfl,h0,h1⟩:=key
 refine b_ ?_; clear b_ P_
 exact ⟨x,_,e,⟨cells,spot + 1,s,rfl,hc,by exact Nat.lt_succ_of_le ‹_›⟩,h0,h1⟩
theorem draw_isE {o:O} {b:Nat} {size:Int} (hw:IsWell o b) (hb:b < 1000000) (hs:0 < size) (H:List O) {C:Prop} (k:∀ x o',g_law_draw [.ref true 0,.int size] (o :: H) = some (.int x,o' :: H) -> IsWell o' (b + 1) -> 0 ≤ x -> x < size -> C):C:=by
 obtain ⟨x,o',h1,h2,h3,h4⟩:=draw_is hw hb hs H
 exact k x o' h1 h2 h3 h4
noncomputable def kindAll (one n:Int):List (List Row) :=
 [[.bin .add one (.reg one) (.num n)],[.bin .add one (.num n) (.reg one)],[.bin .sub one (.reg one) (.num n)],[.bin .add ((one + 1) % 4) (.num n) (.reg one),.un .copy one (.reg ((one + 1) % 4))],
  [.bin .sub ((one + 1) % 4) (.reg one) (.num n),.un .call (-1) (.reg one),.un .copy one (.reg ((one + 1) % 4))],[.bin .mul 4 (.reg one) (.num n)],[.bin .mul 4 (.num n) (.reg one)],[.bin .mul ((one + 1) % 4) (.reg one) (.reg 0)],
  [.bin .mul 4 (.num n) (.num n)],[.bin .add ((one + 1) % 4) (.reg one) (.num n)],[.un .copy one (.reg ((one + 1) % 4))],
  [.bin .add ((one + 1) % 4) (.reg one) (.num n),.bin .add one (.reg one) (.num n),.un .copy one (.reg ((one + 1) % 4))],[.bin .sub one (.num n) (.reg one)],[.bin .mul one (.reg one) (.num n)]]
theorem kind_all (one n:Int) (H:List O):(List.range 14).map (fun k:Nat=>g_law_kind [.int k,.int one,argV (.num n)] H) = (kindAll one n).map fun rows=>some (rowsV rows,H):=by kernel_rfl
noncomputable def Few (rows:List Row):Prop:=rows.length ≤ 3 ∧ ∀ r ∈ rows,r.okIn 5
theorem few1 {r:Row} (h:r.okIn 5):Few [r]:=⟨(by decide:1 ≤ 3),fun _ q=>List.mem_singleton.mp q ▸ h⟩
theorem few_more {r:Row} {l:List Row} (h:r.okIn 5) (q:Few l) (k:(r :: l).length ≤ 3):Few (r :: l):=⟨k,List.forall_mem_cons.mpr ⟨h,q.2⟩⟩
theorem fews {x:List Row} {l:List (List Row)} (h:Few x) (k:∀ y ∈ l,Few y):∀ y ∈ x :: l,Few y:=List.forall_mem_cons.mpr ⟨h,k⟩
theorem okb {o:Two} {d:Int} {a b:Arg} (h:d < 5) (ha:a.okIn 5) (hb:b.okIn 5):(Row.bin o d a b).okIn 5:=⟨h,ha,hb⟩
theorem oku {o:One} {d i:Int} (h:d < 5) (ha:(Arg.reg i).okIn 5):(Row.un o d (.reg i)).okIn 5:=⟨h,ha,fun _=>rfl⟩
theorem kind_few {one n:Int} (h2:0 ≤ one) (h3:one < 3) (h4:0 ≤ n) (h5:n < 4294967296):∀ rows ∈ kindAll one n,Few rows:=by
 have d1:one < 5:=Int.lt_trans h3 (by decide)
 have d2:(one + 1) % 4 < 5:=Int.lt_trans (Int.emod_lt_of_pos _ (by decide)) (by decide)
 have a1:(Arg.reg one).okIn 5:=⟨h2,d1⟩
 have a2:(Arg.reg ((one + 1) % 4)).okIn 5:=⟨Int.emod_nonneg _ (by decide),d2⟩
 have a3:(Arg.num n).okIn 5:=⟨h4,h5⟩
 exact fews (few1 (okb d1 a1 a3)) <| fews (few1 (okb d1 a3 a1)) <| fews (few1 (okb d1 a1 a3)) <| fews (few_more (okb d2 a3 a1) (few1 (oku d1 a2)) (by decide:2 ≤ 3)) <|
  fews (few_more (okb d2 a1 a3) (few_more (oku (by decide) a1) (few1 (oku d1 a2)) (by decide:2 ≤ 3)) (by decide:3 ≤ 3)) <| fews (few1 (okb (by decide) a1 a3)) <| fews (few1 (okb (by decide) a3 a1)) <| fews (few1 (okb d2 a1 ⟨by decide,by decide⟩)) <|
  fews (few1 (okb (by decide) a3 a3)) <| fews (few1 (okb d2 a1 a3)) <| fews (few1 (oku d1 a2)) <| fews (few_more (okb d2 a1 a3) (few_more (okb d1 a1 a3) (few1 (oku d1 a2)) (by decide:2 ≤ 3)) (by decide:3 ≤ 3)) <|
  fews (few1 (okb d1 a3 a1)) <| fews (few1 (okb d1 a1 a3)) fun _ h=>nomatch h
theorem kind_is {kind one n:Int} (h0:0 ≤ kind) (h1:kind < 14) (h2:0 ≤ one) (h3:one < 3) (h4:0 ≤ n) (h5:n < 4294967296) (H:List O):∃ rows,g_law_kind [.int kind,.int one,argV (.num n)] H = some (rowsV rows,H) ∧ rows.length ≤ 3 ∧ ∀ r ∈ rows,r.okIn 5:=by
 obtain ⟨k,rfl⟩:=Int.eq_ofNat_of_zero_le h0
 have e:((List.range 14).map (fun k:Nat=>g_law_kind [.int k,.int one,argV (.num n)] H))[k]? = _:=congrArg (fun l=>l[k]?) (kind_all one n H)
 rw [List.getElem?_map,List.getElem?_range (Int.ofNat_lt.mp h1)] at e
 obtain ⟨rows,hr,e⟩:=Option.map_eq_some_iff.mp ((List.getElem?_map ..).symm.trans e.symm)
 exact ⟨rows,e.symm,kind_few h2 h3 h4 h5 _ (List.mem_of_getElem? hr)⟩
theorem intR_map (n a:Nat):intR (a:Int) n = (List.range' a n).map fun n:Nat=>V.int n:=by
 induction n generalizing a with
 | zero=>rfl
 | succ n ih=>exact congrArg (List.cons (V.int a)) (ih (a + 1))
noncomputable def ringO (S:List Row):O:=.list (S.map rowV)
noncomputable def ringV (many:Nat):V:=.lst ((List.range many).map fun i=>.ref false i)
noncomputable def sumLen (ring:List (List Row)):Nat:=(ring.map List.length).sum
structure RingOk (many:Nat) (ring:List (List Row)) (t:Nat):Prop where
 len:ring.length = many
 ok:∀ S ∈ ring,∀ r ∈ S,r.okIn 5
 tot:sumLen ring ≤ t
noncomputable def RingFirst (ring:List (List Row)):Prop:=Ex3 fun n S0 rest=>ring = (.bin .mul 4 (.reg 0) (.num n) :: S0) :: rest
theorem ring_get {ring:List (List Row)} {j:Nat} {S:List Row} (h:ring[j]? = some S):(ring.map ringO)[j]? = some (.list (S.map rowV)):=by rw [List.getElem?_map,h]; rfl
theorem ring_set {ring:List (List Row)} {j:Nat} {S rows:List Row}:(ring.map ringO).set j (.list (S.map rowV ++ rows.map rowV)) = (ring.set j (S ++ rows)).map ringO:=by
 rw [List.map_set]
 congr 1
 unfold ringO
 rw [List.map_append]
theorem ring_set1 {ring:List (List Row)} {j:Nat} {S:List Row} {r:Row}:(ring.map ringO).set j (.list (S.map rowV ++ [rowV r])) = (ring.set j (S ++ [r])).map ringO:=ring_set (rows:=[r])
theorem sumLen_set {ring:List (List Row)} {j:Nat} {S rows:List Row} (h:ring[j]? = some S):sumLen (ring.set j (S ++ rows)) = sumLen ring + rows.length:=by
 unfold sumLen
 induction ring generalizing j with
 | nil=>exact none_some h
 | cons T ring ih =>
  cases j with
  | zero =>
   rw [List.getElem?_cons_zero] at h; cases h
   rw [List.set_cons_zero,List.map_cons,List.map_cons,List.sum_cons,List.sum_cons,List.length_append]; lia
  | succ j =>
   rw [List.getElem?_cons_succ] at h
   rw [List.set_cons_succ,List.map_cons,List.map_cons,List.sum_cons,List.sum_cons,ih h]; lia
theorem RingOk.add {many t:Nat} {ring:List (List Row)} (R:RingOk many ring t) {j:Nat} {S rows:List Row} (h:ring[j]? = some S) (hr:∀ r ∈ rows,r.okIn 5) {u:Nat} (hu:t + rows.length ≤ u):RingOk many (ring.set j (S ++ rows)) u:=by
 refine ⟨by rw [List.length_set]; exact R.len,fun T hT r hrT=>?_,by rw [sumLen_set h]; have:=R.tot; lia⟩
 rcases List.mem_or_eq_of_mem_set hT with hT | rfl
 ·exact R.ok T hT r hrT
 ·rcases List.mem_append.mp hrT with h1 | h1
  ·exact R.ok S (List.mem_of_getElem? h) r h1
  ·exact hr r h1
theorem RingFirst.add {ring:List (List Row)} (F:RingFirst ring) {j:Nat} {S rows:List Row} (h:ring[j]? = some S):RingFirst (ring.set j (S ++ rows)):=by
 obtain ⟨n,S0,rest,rfl⟩:=F
 cases j with
 | zero =>
  rw [List.getElem?_cons_zero] at h; cases h
  exact ⟨n,S0 ++ rows,rest,rfl⟩
 | succ j=>exact ⟨n,S0,rest.set j (S ++ rows),rfl⟩
theorem len_of_mem {ring:List (List Row)} {j:Nat} {S:List Row} (h:ring[j]? = some S):S.length ≤ sumLen ring:=by
 unfold sumLen
 induction ring generalizing j with
 | nil=>exact none_some h
 | cons T ring ih =>
  rw [List.map_cons,List.sum_cons]
  cases j with
  | zero=>rw [List.getElem?_cons_zero] at h; cases h; (exact Nat.le_add_right _ _)
  | succ j=>rw [List.getElem?_cons_succ] at h; have:=ih h; lia
theorem ringV_get {many j:Nat} (h:j < many) (hm:many ≤ 3):getL ((List.range many).map fun i=>V.ref false i) (j:Nat) = some (.ref false j):=by
 refine getL_of (by exact nD2 ‹_› ‹_› (by decide)) ?_
 rw [List.getElem?_map,List.getElem?_range h]; rfl
theorem ringV_last {many:Nat} (h:1 ≤ many) (hm:many ≤ 3):getL ((List.range many).map fun i=>V.ref false i) (-1) = some (.ref false (many - 1)):=by
 refine getL_last (by rw [List.length_map,List.length_range]; (assumption)) (by rw [List.length_map,List.length_range]; (exact nB ‹_› (by decide))) ?_
 rw [List.length_map,List.length_range,List.getElem?_map,List.getElem?_range (by exact Nat.sub_lt ‹_› Nat.one_pos)]; rfl
theorem frzL_ring {H:List O} {loc:List V} (ring:List (List Row)):∀ (i:Nat) (t:List O),t.length = i -> ∃ t',frzL ((List.range' i ring.length).map fun i=>V.ref false i) ⟨loc,t ++ ring.map ringO,H⟩ = some (ring.map rowsV,⟨loc,t',H⟩):=by
 induction ring with
 | nil=>exact fun i t h=>⟨_,by rw [List.length_nil,List.range'_zero]; rfl⟩
 | cons S ring ih =>
  intro i t h
  rw [List.length_cons,List.range'_succ,List.map_cons]
  obtain ⟨t',e⟩:=ih (i + 1) (t ++ [.dead]) (by rw [List.length_append,h]; rfl)
  refine ⟨t',AM.bind_some.mpr ⟨rowsV S,⟨loc,t ++ [.dead] ++ ring.map ringO,H⟩,?_,AM.bind_some.mpr ⟨ring.map rowsV,_,e,rfl⟩⟩⟩
  have:(St.sel ⟨loc,t ++ (S :: ring).map ringO,H⟩ false)[i]? = some (.list (S.map rowV)):=by
   show (t ++ (S :: ring).map ringO)[i]? = _
   rw [List.getElem?_append_right (by exact Nat.le_of_eq ‹_›),h,Nat.sub_self]; rfl
  refine (frz_list this).trans ?_
  show some (V.lst (S.map rowV),St.mk loc ((t ++ (S :: ring).map ringO).set i .dead) H) = _
  rw [List.set_append_right _ _ (by exact Nat.le_of_eq ‹_›),h,Nat.sub_self,List.map_cons,List.set_cons_zero,List.append_assoc]
  rfl
theorem frzL_app {a b ua ub:List V} {σ σ1 σ2:St} (h1:frzL a σ = some (ua,σ1)) (h2:frzL b σ1 = some (ub,σ2)):frzL (a ++ b) σ = some (ua ++ ub,σ2):=by
 induction a generalizing σ ua with
 | nil=>cases h1; exact h2
 | cons v a ih =>
  obtain ⟨u,σ3,e1,h1⟩:=AM.bind_some.mp h1
  obtain ⟨us,σ4,e2,h1⟩:=AM.bind_some.mp h1
  obtain ⟨e3,e4⟩:=AM.pure_some h1
  subst e3; subst e4
  exact AM.bind_some.mpr ⟨u,σ3,e1,AM.bind_some.mpr ⟨us ++ ub,σ2,ih e2,rfl⟩⟩
theorem frzL_one {vs:List V} {σ:St}:frzL [.lst vs] σ = some ([.lst vs],σ):=rfl
noncomputable def partsOf (n1 n2:Int) (ring:List (List Row)):List (List Row):=[.bin .sub 0 (.reg 1) (.num n1)] :: (ring ++ [[.bin .mul 4 (.reg 0) (.num n1),.un .const 0 (.num n2)]])
theorem ws_step {σ:St} {N:St -> Prop} {R:V -> St -> Prop} {a b:AM AFlow} (N1:St -> Prop) (h:ws a σ N1 fun _ _=>False) (k:∀ σ1,N1 σ1 -> ws b σ1 N R):ws (sSeq a b) σ N R:=ws_seq (ws_mono h k fun _ _ h=>h.elim)
theorem IsWell.up {o:O} {a b:Nat} (h:IsWell o a) (hb:a ≤ b):IsWell o b:=(by obtain ⟨c,s,x,e,h1,h2⟩:=h; exact ⟨c,s,x,e,h1,by exact Nat.le_trans ‹_› ‹_›⟩)
theorem sumLen_nil (many:Nat):sumLen (List.replicate many []) = 0:=by unfold sumLen; simp
theorem ring0 (many:Nat):RingOk many (List.replicate many []) 0:=⟨by simp,fun S hS r hr=>(by have:=(List.mem_replicate.mp hS).2; subst this; cases hr),by rw [sumLen_nil]; exact Nat.le_refl _⟩
noncomputable def locP (many:Nat) (n1 n2:Int) (v4 v6 v7 v8 v9:V):List V:=[.ref true 0,.int many,argV (.num n1),argV (.num n2),v4,ringV many,v6,v7,v8,v9,.undef,.undef,.undef,.undef]
theorem parts_is {o:O} {b many:Nat} (hw:IsWell o b) (hb:b < 900000) (hm:1 ≤ many) (hm3:many ≤ 3) (H:List O) :
  ∃ v H',g_law_parts [.ref true 0,.int many] (o :: H) = some (v,H') ∧ Ex4 fun o' n1 n2 ring=>And9 (H' = o' :: H) (IsWell o' (b + 100)) (v = .lst ((partsOf n1 n2 ring).map rowsV)) (0 ≤ n1) (n1 < 4294967296) (0 ≤ n2) (n2 < 4294967296) (RingOk many ring 20) (RingFirst ring):=by
 refine run_ofN fun N_ R_ kN kR=>?_
 unfold m_law_parts
 refine ws_stepN (fun σ=>Ex2 fun n1 o1=>And4 (0 ≤ n1) (n1 < 4294967296) (IsWell o1 (b + 1)) (σ = ⟨[.ref true 0,.int many,argV (.num n1),.undef,.undef,.undef,.undef,.undef,.undef,.undef,.undef,.undef,.undef,.undef],[],o1 :: H⟩)) (fun _ _ kM=>?_) ?_
 ·walk_at "m go"
  refine draw_isE (size:=4294967296) hw (by exact nA ‹_› (by decide)) (by decide) H fun n1 o1 e1 w1 h1 h2=>?_
  refine callX e1 ?_
  walk_at "m go"
  exact kM _ ⟨_,_,h1,h2,w1,rfl⟩
 intro σ h0_
 obtain ⟨n1,o1,h1,h2,w1,rfl⟩:=h0_
 refine ws_stepN (fun σ=>Ex2 fun n2 o2=>And4 (0 ≤ n2) (n2 < 4294967296) (IsWell o2 (b + 3)) (σ = ⟨[.ref true 0,.int many,argV (.num n1),argV (.num n2),.undef,.undef,.undef,.undef,.undef,.undef,.undef,.undef,.undef,.undef],[],o2 :: H⟩)) (fun _ _ kM=>?_) ?_
 ·walk_at "m go"
  refine draw_isE (size:=2) w1 (by exact nB ‹_› (by decide)) (by decide) H fun x o2 e2 w2 _ _=>?_
  refine callX e2 ?_
  walk_at "m go"
  ·exact kM _ ⟨_,_,h1,h2,w2.up (by exact Nat.le_succ _),rfl⟩
  ·skip
   refine draw_isE (size:=4294967296) w2 (by lia) (by decide) H fun n2 o3 e3 w3 h3 h4=>?_
   refine callX e3 ?_
   walk_at "m go"
   exact kM _ ⟨_,_,h3,h4,w3,rfl⟩
 intro σ h0_
 obtain ⟨n2,o2,h3,h4,w2,rfl⟩:=h0_
 refine ws_stepN (fun σ=>Ex5 fun v4 v6 v7 v8 v9=>σ = ⟨locP many n1 n2 v4 v6 v7 v8 v9,(List.replicate many []).map ringO,o2 :: H⟩) (fun _ _ kM=>?_) ?_
 ·walk_at "m go"
  refine ⟨by lia,by lia,?_⟩
  rw [show intR 0 (many:Int).toNat = (List.range' 0 many).map fun n:Nat=>V.int n from intR_map many 0]
  refine wp_compM (fun n:Nat=>V.int n) (List.range' 0 many) (fun pre out σ=>∃ v,σ = ⟨[.undef,v],(List.replicate pre.length []).map ringO,o2 :: H⟩ ∧ out = (List.range pre.length).map fun i=>V.ref false i) ⟨_,rfl,rfl⟩ ?_ ?_
  ·intro pre n post out σ e h0_
   obtain ⟨v,rfl,rfl⟩:=h0_
   walk_at "m go"
   have hl:(pre ++ [n]).length = pre.length + 1:=by simp
   rw [hl,List.range_succ,List.map_append,List.replicate_succ',List.map_append (f:=ringO)]
   refine ⟨_,rfl,?_⟩
   show _ ++ [V.ref false ((List.replicate pre.length ([]:List Row)).map ringO).length] = _
   rw [List.length_map,List.length_replicate]
   rfl
  ·intro out σ h0_
   obtain ⟨v,rfl,rfl⟩:=h0_
   have hrl:(List.range' 0 many).length = many:=by simp
   rw [hrl]
   exact ⟨by rw [List.length_map,List.length_range]; unfold lid; (exact nB ‹_› (by decide)),wp_outF (kM _ ⟨_,_,_,_,_,rfl⟩)⟩
 intro σ h0_
 obtain ⟨v4,v6,v7,v8,v9,rfl⟩:=h0_
 refine ws_stepN (fun σ=>Ex6 fun v4 v6 v7 v8 v9 ring=>And3 (RingOk many ring 1) (RingFirst ring) (σ = ⟨locP many n1 n2 v4 v6 v7 v8 v9,ring.map ringO,o2 :: H⟩)) (fun _ _ kM=>?_) ?_
 ·have hg0:getL ((List.range many).map fun i=>V.ref false i) 0 = some (.ref false 0):=ringV_get (j:=0) (by (assumption)) hm3
  have hz:(List.replicate many ([]:List Row))[0]? = some []:=by rw [List.getElem?_replicate]; exact if_pos (by (assumption))
  have hmr:V.tup [.str "mul",.int 4,.lst [.tup [.str "r",.int 0],argV (.num n1)]] = rowV (.bin .mul 4 (.reg 0) (.num n1)):=rfl
  unfold locP ringV
  walk_at "m go"
  refine ⟨⟨_,ring_get hz⟩,?_⟩
  walk_at "m go"
  refine ⟨_,ring_get hz,?_⟩
  walk_at "m go"
  rw [hmr,show St.put _ false 0 (.list (([]:List Row).map rowV ++ [rowV (.bin .mul 4 (.reg 0) (.num n1))])) = _ from congrArg (fun t=>St.mk _ t _) ring_set1]
  refine kM _ ⟨_,_,_,_,_,_,(ring0 many).add hz (fun r hr=>?_) (Nat.le_refl _),⟨n1,[],List.replicate (many - 1) [],?_⟩,rfl⟩
  ·obtain rfl:r = _:=by simpa using hr
   exact ⟨by exact Int.natCast_nonneg _,⟨by exact Int.natCast_nonneg _,by exact Int.natCast_nonneg _⟩,by (assumption),by (assumption)⟩
  ·skip
   obtain ⟨m',rfl⟩:∃ m',many = m' + 1:=⟨many - 1,by exact (Nat.sub_add_cancel ‹_›).symm⟩
   rw [List.replicate_succ]; rfl
 intro σ h0_
 obtain ⟨v4,v6,v7,v8,v9,ring,R1,F1,rfl⟩:=h0_
 refine ws_stepN (fun σ=>Ex7 fun v4 v6 v7 v8 v9 ring o3=>And4 (RingOk many ring 16) (RingFirst ring) (IsWell o3 (b + 20)) (σ = ⟨locP many n1 n2 v4 v6 v7 v8 v9,ring.map ringO,o3 :: H⟩)) (fun _ _ kM=>?_) ?_
 ·skip
  refine draw_isE (size:=5) w2 (by lia) (by decide) H fun x o3 e3 w3 h5 h6=>?_
  unfold locP ringV
  walk_at "m go"
  refine callX e3 ?_
  walk_at "m go"
  refine ⟨by lia,by lia,?_⟩
  rw [show intR 0 (1 + x).toNat = (List.range' 0 (1 + x).toNat).map fun n:Nat=>V.int n from intR_map _ 0]
  refine ws_forI (fun n:Nat=>V.int n) (List.range' 0 (1 + x).toNat) (fun pre σ=>Ex7 fun v4 v6 v7 v8 v9 ring o4=>And4 (RingOk many ring (1 + 3 * pre.length)) (RingFirst ring) (IsWell o4 (b + 4 + 3 * pre.length)) (σ = ⟨[.ref true 0,.int many,argV (.num n1),argV (.num n2),v4,.lst ((List.range many).map fun i=>.ref false i),v6,v7,v8,v9,.undef,.undef,.undef,.undef],ring.map ringO,o4 :: H⟩)) ⟨_,_,_,_,_,_,_,R1,F1,w3,rfl⟩ ?_ ?_
  ·intro pre n post σ e h0_
   refine hG9 fun P_ b_=>?_
   obtain ⟨v4,v6,v7,v8,v9,ring,o4,R2,F2,w4,rfl⟩:=h0_
   have hpl:pre.length < 5:=by have:=congrArg List.length e; simp at this; lia
   have hj:n % many < many:=Nat.mod_lt _ (by (assumption))
   have hmod:opMod (.int n) (.int many) = some (.int ((n % many:Nat):Int)):=(op_mod (by exact Int.ofNat_lt.mpr ‹_›)).trans (by rw [Int.natCast_emod])
   have hget:=ringV_get hj hm3
   obtain ⟨S,hS⟩:∃ S,ring[n % many]? = some S:=⟨_,List.getElem?_eq_getElem (by rw [R2.len]; exact hj)⟩
   have hSl:=len_of_mem hS
   have htot:=R2.tot
   refine draw_isE (size:=14) w4 (by lia) (by decide) H fun kd o5 e5 w5 k1 k2=>?_
   refine draw_isE (size:=3) w5 (by lia) (by decide) H fun on o6 e6 w6 k3 k4=>?_
   refine draw_isE (size:=4294967296) w6 (by lia) (by decide) H fun nn o7 e7 w7 k5 k6=>?_
   obtain ⟨rows,e8,r1,r2⟩:=kind_is k1 k2 k3 k4 k5 k6 (o7 :: H)
   refine b_ ?_; clear b_ P_
   walk_at "m go"
   refine callX e5 ?_
   walk_at "m go"
   refine callX e6 ?_
   walk_at "m go"
   refine ⟨⟨_,ring_get hS⟩,?_⟩
   walk_at "m go"
   refine callX e7 ?_
   walk_at "m go"
   refine callX e8 ?_
   refine ⟨_,rows.map rowV,ring_get hS,rfl,?_⟩
   walk_at "m go"
   rw [show St.put _ false (n % many) (.list (S.map rowV ++ rows.map rowV)) = _ from congrArg (fun t=>St.mk _ t _) ring_set]
   have hpl2:(pre ++ [n]).length = pre.length + 1:=by simp
   rw [hpl2]
   exact ⟨_,_,_,_,_,_,_,R2.add hS r2 (by lia),F2.add hS,w7.up (by exact Nat.le_refl _),rfl⟩
  ·intro σ h0_
   obtain ⟨v4,v6,v7,v8,v9,ring,o4,R2,F2,w4,rfl⟩:=h0_
   have hxl:(List.range' 0 (1 + x).toNat).length ≤ 5:=by simp; lia
   exact kM _ ⟨_,_,_,_,_,_,_,⟨R2.len,R2.ok,by have:=R2.tot; lia⟩,F2,w4.up (by lia),rfl⟩
 intro σ h0_
 obtain ⟨v4,v6,v7,v8,v9,ring,o3,R2,F2,w3,rfl⟩:=h0_
 have hj:many - 1 < many:=by exact Nat.sub_lt ‹_› Nat.one_pos
 have hlast:=ringV_last hm hm3
 obtain ⟨S,hS⟩:∃ S,ring[many - 1]? = some S:=⟨_,List.getElem?_eq_getElem (by rw [R2.len]; exact hj)⟩
 have hSl:=len_of_mem hS
 have htot:=R2.tot
 have hmr:V.tup [.str "mul",.int 4,.lst [argV (.num n2),.tup [.str "r",.int 0]]] = rowV (.bin .mul 4 (.num n2) (.reg 0)):=rfl
 unfold locP ringV
 refine ws_stepN (fun σ=>∃ ring,And3 (RingOk many ring 17) (RingFirst ring) (σ = ⟨[.ref true 0,.int many,argV (.num n1),argV (.num n2),v4,.lst ((List.range many).map fun i=>.ref false i),v6,v7,v8,v9,.undef,.undef,.undef,.undef],ring.map ringO,o3 :: H⟩)) (fun _ _ kM=>?_) ?_
 ·walk_at "m go"
  refine ⟨⟨_,ring_get hS⟩,?_⟩
  walk_at "m go"
  refine ⟨_,ring_get hS,?_⟩
  walk_at "m go"
  rw [hmr,show St.put _ false (many - 1) (.list (S.map rowV ++ [rowV (.bin .mul 4 (.num n2) (.reg 0))])) = _ from congrArg (fun t=>St.mk _ t _) ring_set1]
  refine kM _ ⟨_,R2.add hS (fun r hr=>?_) (Nat.le_refl _),F2.add hS,rfl⟩
  obtain rfl:r = _:=by simpa using hr
  exact ⟨by exact Int.natCast_nonneg _,⟨by (assumption),by (assumption)⟩,by exact Int.natCast_nonneg _,by exact Int.natCast_nonneg _⟩
 clear hS hSl htot
 intro σ h0_
 refine hG9 fun P_ b_=>?_
 obtain ⟨ring,R3,F3,rfl⟩:=h0_
 obtain ⟨S,hS⟩:∃ S,ring[many - 1]? = some S:=⟨_,List.getElem?_eq_getElem (by rw [R3.len]; exact hj)⟩
 have hSl:=len_of_mem hS
 have htot:=R3.tot
 refine draw_isE (size:=5) w3 (by lia) (by decide) H fun kd o5 e5 w5 k1 k2=>?_
 refine draw_isE (size:=4294967296) w5 (by lia) (by decide) H fun nn o7 e7 w7 k5 k6=>?_
 obtain ⟨rows,e8,r1,r2⟩:=kind_is (one:=0) k1 (by exact wA ‹_› (by decide)) (by decide) (by decide) k5 k6 (o7 :: H)
 refine b_ ?_; clear b_ P_
 walk_at "m go"
 refine callX e5 ?_
 walk_at "m go"
 refine ⟨⟨_,ring_get hS⟩,?_⟩
 walk_at "m go"
 refine callX e7 ?_
 walk_at "m go"
 refine callX e8 ?_
 refine ⟨_,rows.map rowV,ring_get hS,rfl,?_⟩
 walk_at "m go"
 rw [show St.put _ false (many - 1) (.list (S.map rowV ++ rows.map rowV)) = _ from congrArg (fun t=>St.mk _ t _) ring_set]
 have R4:=R3.add hS r2 (u:=20) (by lia)
 have F4:=F3.add (rows:=rows) hS
 generalize ring.set (many - 1) (S ++ rows) = ring4 at R4 F4
 walk_at "m go"
 obtain ⟨t',ef⟩:=frzL_ring (H:=o7 :: H) (loc:=[.ref true 0,.int many,argV (.num n1),argV (.num n2),v4,.lst ((List.range many).map fun i=>.ref false i),.int kd,v7,rowsV [.bin .sub 0 (.reg 1) (.num n1)],rowsV [.bin .mul 4 (.reg 0) (.num n1),.un .const 0 (.num n2)],.undef,.undef,.undef,.undef]) ring4 0 [] rfl
 rw [R4.len,← List.range_eq_range'] at ef
 refine ⟨_,_,_,rfl,frzL_app (frzL_app frzL_one ef) frzL_one,?_⟩
 have hc:(V.lst ((partsOf n1 n2 ring4).map rowsV)).clean = true:=cl_rows _
 unfold partsOf at hc
 rw [List.map_cons,List.map_append] at hc
 refine kR _ _ hc ⟨o7,n1,n2,ring4,rfl,w7.up (by lia),?_,h1,h2,h3,h4,R4,F4⟩
 unfold partsOf
 rw [List.map_cons,List.map_append]
 rfl
theorem ws_attrH {N:St -> Prop} {R:V -> St -> Prop} {loc:List V} {t h:List O} {x:Str} {C:Addr} {i:Nat} {me:AM V} {fs:List (Str × V)} (hi:loc[i]? = some (.obj true C h.length)) (hl:fs.length < 100)
  (hm:wp me ⟨loc,t,h ++ [.inst fs]⟩ fun v σ1=>v.clean = true ∧ ∃ t1,σ1 = ⟨loc,t1,h ++ [.inst fs]⟩ ∧ N ⟨loc,t1,h ++ [.inst (putF x v fs)]⟩):ws (sAttr C x (mGet i) me) ⟨loc,t,h ++ [.inst fs]⟩ N R:=by
 refine ws_attr (wp_mono hm fun v σ1 q9_=>?_); obtain ⟨hc,t1,e,hn⟩:=q9_
 subst e
 refine wp_get hi rfl ⟨beq_self_eq_true _,wu_setAt (fs:=fs) ?_ hl (fun _=>hc) ?_⟩
 ·show (h ++ [O.inst fs])[h.length]? = _
  simp
 ·show N ⟨loc,t1,(h ++ [O.inst fs]).set h.length _⟩
  rw [List.set_append_right _ _ (Nat.le_refl _),Nat.sub_self]
  exact hn
theorem wp_blockNew {σ:St} {Q:V -> St -> Prop} {ms:List (AM V)} (h:wp (mAll ms) σ fun vs σ1=>∃ n,vs = [.int n] ∧ Q (.obj true 66 σ1.heap.length) ⟨σ1.loc,σ1.tmp,σ1.heap ++ [.inst (blockF n (.lst []))]⟩) :
  wp (mNew 66 2 m_Block_init true ms) σ Q:=by
 refine wp_new (wp_mono h fun vs σ1 q9_=>?_); obtain ⟨n,e,q⟩:=q9_
 subst e
 unfold m_Block_init
 refine ws_seq (ws_attrH (h:=σ1.heap) (t:=σ1.tmp) (loc:=[.obj true 66 σ1.heap.length,.int n]) rfl (of_decide_eq_true rfl) (wp_get (by exact rfl) rfl ⟨rfl,_,rfl,?_⟩))
 refine ws_seq (ws_attrH rfl (of_decide_eq_true rfl) (wp_lstF (wp_nil ⟨of_decide_eq_true rfl,rfl,_,rfl,?_⟩)))
 refine ws_seq (ws_attrH rfl (of_decide_eq_true rfl) (wp_pure ⟨rfl,_,rfl,?_⟩))
 exact ws_nil q
theorem wp_funcNew {σ:St} {Q:V -> St -> Prop} {ms:List (AM V)} {o:O} (h:wp (mAll ms) σ fun vs σ1=>vs = [.str "f"] ∧ σ1.heap = [o] ∧ Q (.obj true 87 1) ⟨σ1.loc,σ1.tmp,[o,.inst (funcF 0),.list []]⟩) :
  wp (mNew 87 2 m_Func_init true ms) σ Q:=by
 refine wp_new (wp_mono h fun vs σ1 q9_=>?_); obtain ⟨e,eh,q⟩:=q9_
 subst e
 obtain ⟨l1,t1,h1⟩:=σ1
 dsimp only at eh
 subst eh
 unfold m_Func_init
 refine ws_seq (ws_attrH (h:=[o]) (t:=t1) (loc:=[.obj true 87 1,.str "f"]) rfl (of_decide_eq_true rfl) (wp_get (by exact rfl) rfl ⟨rfl,_,rfl,?_⟩))
 refine ws_seq (ws_attrH (h:=[o]) rfl (of_decide_eq_true rfl) (wp_lstF (wp_nil ⟨of_decide_eq_true rfl,rfl,_,rfl,?_⟩)))
 refine ws_seq (ws_attrH (h:=[o]) rfl (of_decide_eq_true rfl) (wp_pure ⟨rfl,_,rfl,?_⟩))
 refine ws_seq (ws_attrH (h:=[o]) rfl (of_decide_eq_true rfl) (wp_lstF (wp_nil ⟨of_decide_eq_true rfl,rfl,_,rfl,?_⟩)))
 refine ws_seq (ws_attr (wp_lstO (wp_nil ⟨of_decide_eq_true rfl,(fun _=>rfl),wp_get (by exact rfl) rfl ⟨rfl,wu_setAt (by exact rfl) (of_decide_eq_true rfl) (fun _=>rfl) ?_⟩⟩)))
 refine ws_seq (ws_attr (wp_pure (wp_get (by exact rfl) rfl ⟨rfl,wu_setAt (by exact rfl) (of_decide_eq_true rfl) (fun _=>rfl) ?_⟩)))
 refine ws_seq (ws_attr (wp_pure (wp_get (by exact rfl) rfl ⟨rfl,wu_setAt (by exact rfl) (of_decide_eq_true rfl) (fun _=>rfl) ?_⟩)))
 exact ws_nil q
theorem step_more {r:Row} (v:V) (hv:v = moreV r.op):V.inst 45 (stepF (.str r.op.s) (.int r.dst) (.lst (r.args.map argV)) v) = stepV r:=by subst hv; rfl
theorem args_len (r:Row):r.args.length ≤ 2:=by cases r <;> simp [Row.args]
theorem refs_succ (m:Nat):blockRefs (m + 1) = blockRefs m ++ [.obj true 66 (5 + m)]:=by
 unfold blockRefs
 rw [List.range_succ,List.map_append]; rfl
theorem lawHeap_len {w:O} {k:Int} {L:List Row} {Ss:List (List Row)}:(lawHeap w k L Ss).length = 5 + Ss.length:=by
 unfold lawHeap blocksO
 simp
 lia
theorem heap_blk {w:O} {k:Int} {L:List Row} {Ss:List (List Row)} {S:List Row}:(lawHeap w k L Ss ++ [O.inst (blockF ((Ss.length + 1:Nat):Int) (.lst (S.map stepV)))]).set 2 (.list (blockRefs Ss.length ++ [V.obj true 66 (5 + Ss.length)])) = lawHeap w k L (Ss ++ [S]):=by
 rw [← refs_succ]
 unfold lawHeap blocksO
 rw [List.length_append,List.zipIdx_append,List.map_append]
 simp [List.set_cons_succ]
theorem wp_outZ {σ:St} {Q:V -> St -> Prop} {vs:List V} {i:Nat} (h:σ.loc[i]? = some (.int 0)) (c:cleanL vs = true) (q:Q (.ref true σ.heap.length) ⟨σ.loc,σ.tmp,σ.heap ++ [.list vs]⟩):wp (mOut (zeroAt i) vs) σ Q:=by
 refine ⟨_,_,?_,q⟩
 unfold mOut zeroAt
 rw [h]
 exact if_pos fun _=>c
theorem wp_outN {σ:St} {Q:V -> St -> Prop} {vs:List V} {i m:Nat} (h:σ.loc[i]? = some (.int ((m + 1:Nat):Int))) (q:Q (.lst vs) σ):wp (mOut (zeroAt i) vs) σ Q:=by
 refine ⟨_,_,?_,q⟩
 unfold mOut zeroAt
 rw [h]
 rfl
theorem wp_stepsC {rows:List Row} {t H:List O} {L:List V -> St -> Prop} (q:∀ loc t',L (rows.map stepV) ⟨loc,t',H⟩) :
  wp (compM (tTup [tName 1,tName 2,tName 3]) (pure true) (mFrz (mNew 45 5 m_Step_init false [mGet 1,mGet 2,mListC (fun _=>none) (mGet 3),mIf (tCmp cEq (mGet 1) (pure (.str "call"))) (pure (.str "see")) (pure (.int 0))])) (rows.map rowV)) ⟨[.undef,.undef,.undef,.undef,.undef,.undef],t,H⟩ L:=by
 refine wp_compM rowV rows (fun pre out σ=>Ex4 fun v1 v2 v3 t'=>σ = ⟨[.undef,v1,v2,v3,.undef,.undef],t',H⟩ ∧ out = pre.map stepV) ⟨_,_,_,_,rfl,rfl⟩ ?_ ?_
 ·rintro pre r post out σ e ⟨v1,v2,v3,t',rfl,rfl⟩
  have hal:=args_len r
  walk_at "m go"
  ·refine ⟨_,_,_,_,rfl,rfl,rfl,rfl,rfl,_,_,_,_,rfl,?_⟩
   rw [List.map_append,step_more (r:=r) (.str "see") (by
    have h:r.op.is .call = true:=by assumption
    rw [Op.is_eq] at h; unfold moreV; rw [if_pos (of_decide_eq_true h)])]
   rfl
  ·refine ⟨_,_,_,_,rfl,rfl,rfl,rfl,rfl,_,_,_,_,rfl,?_⟩
   rw [List.map_append,step_more (r:=r) (.int 0) (by
    have h:r.op.is .call = false:=by assumption
    rw [Op.is_eq] at h; unfold moreV; rw [if_neg (of_decide_eq_false h)])]
   rfl
 ·rintro out σ ⟨v1,v2,v3,t',rfl,rfl⟩
  exact q _ _
theorem enumR_is (Ss:List (List Row)) (k:Nat):enumV k (Ss.map rowsV) = (Ss.zipIdx k).map fun x=>V.tup [.int (x.2:Nat),rowsV x.1]:=by
 induction Ss generalizing k with
 | nil=>rfl
 | cons r rows ih=>exact congrArg (List.cons _) (ih (k + 1))
theorem zip_num {Ss:List (List Row)} {pre post:List (List Row × Nat)} {x:List Row × Nat} (e:Ss.zipIdx 1 = pre ++ x :: post):x.2 = pre.length + 1:=by
 have h:(Ss.zipIdx 1)[pre.length]? = some x:=by rw [e,List.getElem?_append_right (Nat.le_refl _),Nat.sub_self]; rfl
 rw [List.getElem?_zipIdx] at h
 obtain ⟨a,_,rfl⟩:=Option.map_eq_some_iff.mp h
 show 1 + pre.length = _; (exact Nat.add_comm _ _)
theorem g_law_made_is {o:O} {A:List Row} {Ss:List (List Row)} (hA:A.length < 1000) (hSs:Ss.length < 1000) (hS:∀ S ∈ Ss,S.length < 1000):g_law_made [.lst ((A :: Ss).map rowsV)] [o] = some (.obj true 87 1,lawHeap o 5 A Ss):=by
 refine run_eq ?_
 unfold m_law_made
 refine ws_seq (ws_set (wp_funcNew (o:=o) ?_))
 walk_at "m go"
 refine ⟨rfl,rfl,?_⟩
 refine ws_seq (ws_attr (wp_pure (wp_get (by exact rfl) rfl ⟨rfl,wu_setAt (fs:=funcF 0) (by exact rfl) (of_decide_eq_true rfl) (fun _=>rfl) ?_⟩)))
 walk_at "m go"
 rw [List.map_cons,show ∀ k v vs,enumV k (v :: vs) = .tup [.int k,v] :: enumV (k + 1) vs from fun _ _ _=>rfl,enumR_is]
 refine ws_fcons ?_
 walk_at "m go"
 refine wp_blockNew ?_
 walk_at "m go"
 refine ⟨_,rfl,?_⟩
 refine ws_seq (ws_attr ?_)
 walk_at "m go"
 refine wp_stepsC fun loc t'=>⟨by rw [List.length_map]; unfold lid; (exact nA ‹_› (by decide)),wp_outZ (by exact rfl) (cl_step _) ?_⟩
 refine wp_get (by exact rfl) rfl ⟨rfl,wu_setAt (fs:=blockF 0 (.lst [])) (by exact rfl) (of_decide_eq_true rfl) (fun _=>rfl) ?_⟩
 walk_at "m go"
 refine wp_attr (wp_get (by exact rfl) rfl (ansX (attr_obj (fs:=funcF 5) (by exact rfl) rfl) ?_))
 walk_at "m go"
 refine ws_forI (fun x:List Row × Nat=>V.tup [.int (x.2:Nat),rowsV x.1]) (Ss.zipIdx 1) (fun pre σ=>Ex4 fun v2 v3 v4 t=>σ = ⟨[.lst (rowsV A :: Ss.map rowsV),.obj true 87 1,v2,v3,v4,.undef,.undef,.undef],t,lawHeap o 5 A (pre.map (·.1))⟩) ⟨_,_,_,_,rfl⟩ ?_ ?_
 ·rintro pre ⟨S,n⟩ post σ e ⟨v2,v3,v4,t,rfl⟩
  obtain rfl:n = pre.length + 1:=zip_num e
  have hSl:S.length < 1000:=hS S (by
   have:(S,pre.length + 1) ∈ Ss.zipIdx 1:=by rw [e]; simp
   exact (List.mem_zipIdx this).2.2 ▸ List.getElem_mem _)
  walk_at "m go"
  refine wp_blockNew ?_
  walk_at "m go"
  refine ⟨_,rfl,?_⟩
  have hml:(pre.map (·.1)).length = pre.length:=by simp
  have hpl:pre.length < 1000:=by have:=congrArg List.length e; simp at this; (exact nJ ‹_› ‹_› (by decide))
  have hfin:(lawHeap o 5 A (pre.map (·.1)) ++ [O.inst (blockF ((pre.length + 1:Nat):Int) (.lst (S.map stepV)))]).set 2 (.list (blockRefs (pre.map (·.1)).length ++ [V.obj true 66 (lawHeap o 5 A (pre.map (·.1))).length])) = lawHeap o 5 A (pre.map (·.1) ++ [S]):=by rw [lawHeap_len,← hml]; exact heap_blk
  rw [List.map_append,List.map_cons,List.map_nil,← hfin]
  refine ws_seq (ws_attrH (h:=lawHeap o 5 A (pre.map (·.1))) (fs:=blockF ((pre.length + 1:Nat):Int) (.lst [])) (by exact rfl) (of_decide_eq_true rfl) ?_)
  walk_at "m go"
  refine wp_stepsC fun loc t'=>⟨by rw [List.length_map]; show S.length < lid; unfold lid; (exact nA ‹_› (by decide)),wp_outN (m:=pre.length) (by exact rfl) ⟨cl_step _,_,rfl,?_⟩⟩
  walk_at "m go"
  refine wp_attr (wp_get (by exact rfl) rfl (ansX (attr_obj (fs:=funcF 5) (by exact rfl) rfl) ?_))
  walk_at "m go"
  refine ⟨(by unfold blockRefs lid; simp; (exact nB ‹_› (by decide))),(fun _=>rfl),rfl,?_⟩
  walk_at "m go"
  exact ⟨_,_,_,_,rfl⟩
 ·refine xe4 fun v2 v3 v4 t=>?_
  walk_at "m go"
  exact ⟨rfl,rfl,by simp⟩
theorem in_dctI {σ:St} {g:Bool} {n:Nat} {es:List (Int × V)} {k:Int} (h:(σ.sel g)[n]? = some (.dctI es)):cIn σ (.int k) (.ref g n) = some (getK es k).isSome:=by
 show (V.view σ (.ref g n)).bind _ = _
 exact obind_of (obind_of h rfl) rfl
theorem nin_dctI {σ:St} {g:Bool} {n:Nat} {es:List (Int × V)} {k:Int} (h:(σ.sel g)[n]? = some (.dctI es)):cNotIn σ (.int k) (.ref g n) = some (!(getK es k).isSome):=by
 unfold cNotIn
 rw [in_dctI h]
 have:V.view σ (.ref g n) = some (.dctI es):=obind_of h rfl
 rw [this]
 rfl
theorem nin_pairs {σ:St} {g:Bool} {n:Nat} {ps:List PI} {p:PI} (h:(σ.sel g)[n]? = some (.list (ps.map pairV))):cNotIn σ (pairV p) (.ref g n) = some (!decide (p ∈ ps)):=by
 have hv:V.view σ (.ref g n) = some (.list (ps.map pairV)):=obind_of h rfl
 unfold cNotIn
 rw [hv]
 show (cIn σ (pairV p) (.ref g n)).map _ = _
 have:cIn σ (pairV p) (.ref g n) = some (decide (p ∈ ps)):=by
  show (V.view σ (.ref g n)).bind _ = _
  rw [hv]
  exact inV_emb emb_pair (by decide) p ps
 rw [this]; rfl
theorem zip_is (S:List Row) (gs:List (Option Int)):zipV (S.map rowV) (gs.map optV) = (S.zip gs).map fun x=>V.tup [rowV x.1,optV x.2]:=by
 induction S generalizing gs with
 | nil=>cases gs <;> rfl
 | cons r S ih =>
  cases gs with
  | nil=>rfl
  | cons g gs=>exact congrArg (List.cons _) (ih gs)
noncomputable def zipsOf (ring:List (List Row)):List (Row × Option Int):=ring.flatMap fun S=>S.zip (lawGrowths S)
structure GB (ts:List (Row × Option Int)) (E1 E2:List (Int × V)):Prop where
 l1:E1.length ≤ ts.length
 l2:E2.length ≤ ts.length
 m1:∀ k,(getK E1 k).isSome = true ↔ ∃ x ∈ ts,x.1.dst = k ∧ x.2.isSome = true
 m2:∀ k,(getK E2 k).isSome = true ↔ ∃ x ∈ ts,x.1.dst = k ∧ x.2.isNone = true
theorem GB.good {ts:List (Row × Option Int)} {E1 E2:List (Int × V)} (h:GB ts E1 E2) {x:Row × Option Int} {v:V} (hx:x.2.isNone = false):GB (ts ++ [x]) (putK E1 x.1.dst v) E2:=by
 have hx':x.2.isSome = true:=by cases e:x.2 <;> rw [e] at hx <;> first | rfl | cases hx
 refine ⟨Nat.le_trans (putK_len _ _ _) (by have:=h.l1; rw [List.length_append]; simp; (assumption)),by have:=h.l2; rw [List.length_append]; (exact Nat.le_succ_of_le ‹_›),fun k=>?_,fun k=>?_⟩
 ·rw [getK_putK]
  by_cases e:x.1.dst = k
  ·rw [if_pos e]
   exact ⟨fun _=>⟨x,by simp,e,hx'⟩,fun _=>rfl⟩
  ·rw [if_neg e,h.m1]
   constructor
   ·rintro ⟨y,hy,r⟩; exact ⟨y,by simp [hy],r⟩
   ·rintro ⟨y,hy,r⟩
    rcases List.mem_append.mp hy with hy | hy
    ·exact ⟨y,hy,r⟩
    ·obtain rfl:=List.mem_singleton.mp hy; exact absurd r.1 e
 ·rw [h.m2]
  constructor
  ·rintro ⟨y,hy,r⟩; exact ⟨y,by simp [hy],r⟩
  ·rintro ⟨y,hy,r⟩
   rcases List.mem_append.mp hy with hy | hy
   ·exact ⟨y,hy,r⟩
   ·obtain rfl:=List.mem_singleton.mp hy; rw [hx] at r; exact absurd r.2 (by decide)
theorem GB.bad {ts:List (Row × Option Int)} {E1 E2:List (Int × V)} (h:GB ts E1 E2) {x:Row × Option Int} {v:V} (hx:x.2.isNone = true):GB (ts ++ [x]) E1 (putK E2 x.1.dst v):=by
 have hx':x.2.isSome = false:=by cases e:x.2 <;> rw [e] at hx <;> first | rfl | cases hx
 refine ⟨by have:=h.l1; rw [List.length_append]; (exact Nat.le_succ_of_le ‹_›),Nat.le_trans (putK_len _ _ _) (by have:=h.l2; rw [List.length_append]; simp; (assumption)),fun k=>?_,fun k=>?_⟩
 ·rw [h.m1]
  constructor
  ·rintro ⟨y,hy,r⟩; exact ⟨y,by simp [hy],r⟩
  ·rintro ⟨y,hy,r⟩
   rcases List.mem_append.mp hy with hy | hy
   ·exact ⟨y,hy,r⟩
   ·obtain rfl:=List.mem_singleton.mp hy; rw [hx'] at r; exact absurd r.2 (by decide)
 ·rw [getK_putK]
  by_cases e:x.1.dst = k
  ·rw [if_pos e]
   exact ⟨fun _=>⟨x,by simp,e,hx⟩,fun _=>rfl⟩
  ·rw [if_neg e,h.m2]
   constructor
   ·rintro ⟨y,hy,r⟩; exact ⟨y,by simp [hy],r⟩
   ·rintro ⟨y,hy,r⟩
    rcases List.mem_append.mp hy with hy | hy
    ·exact ⟨y,hy,r⟩
    ·obtain rfl:=List.mem_singleton.mp hy; exact absurd r.1 e
noncomputable def pairIn (C:Int -> Bool) (r:Row):Option PI:=(lawPair r).bind fun p=>if C p.1 = true then some p else none
theorem pairIn_none {C:Int -> Bool} {r:Row} (h:lawPair r = none):pairIn C r = none:=by unfold pairIn; rw [h]; rfl
theorem pairIn_some {C:Int -> Bool} {r:Row} {p:PI} (h:lawPair r = some p):pairIn C r = if C p.1 = true then some p else none:=obind_of h rfl
theorem zipsOf_len (ring:List (List Row)):(zipsOf ring).length ≤ sumLen ring:=by
 unfold zipsOf sumLen
 induction ring with
 | nil=>simp
 | cons S ring ih =>
  rw [List.flatMap_cons,List.length_append,List.map_cons,List.sum_cons,List.length_zip]
  lia
theorem flatten_len (ring:List (List Row)):ring.flatten.length = sumLen ring:=by rw [List.length_flatten]; rfl
theorem sumLen_app (a b:List (List Row)):sumLen (a ++ b) = sumLen a + sumLen b:=by unfold sumLen; rw [List.map_append,List.sum_append]
theorem sumLen_one (S:List Row):sumLen [S] = S.length:=by unfold sumLen; simp
theorem g_law_pairs_is (ring:List (List Row)) (hl:sumLen ring < 60) (H:List O):∃ v H',g_law_pairs [.lst (ring.map rowsV)] H = some (v,H') ∧ H' = H ∧ ∃ C:Int -> Bool,(∀ k,C k = true ↔ (∃ x ∈ zipsOf ring,x.1.dst = k ∧ x.2.isSome = true) ∧ ¬ ∃ x ∈ zipsOf ring,x.1.dst = k ∧ x.2.isNone = true) ∧ v = .lst ((sortP (nubO (ring.flatten.map (pairIn C)))).map pairV):=by
 refine run_of ?_
 unfold m_law_pairs
 refine ws_step (fun σ=>σ = ⟨[.lst (ring.map rowsV),.ref false 0,.ref false 1,.ref false 2,.undef,.undef,.undef,.undef,.undef,.undef,.undef,.undef],[.dctI [],.dctI [],.list []],H⟩) ?_ ?_
 ·walk_at "m go"
  rfl
 rintro σ rfl
 refine ws_step (fun σ=>Ex5 fun v4 v5 v6 E1 E2=>σ = ⟨[.lst (ring.map rowsV),.ref false 0,.ref false 1,.ref false 2,v4,v5,v6,.undef,.undef,.undef,.undef,.undef],[.dctI E1,.dctI E2,.list []],H⟩ ∧ GB (zipsOf ring) E1 E2) ?_ ?_
 ·walk_at "m go"
  refine ws_forI rowsV ring (fun pre σ=>Ex5 fun v4 v5 v6 E1 E2=>σ = ⟨[.lst (ring.map rowsV),.ref false 0,.ref false 1,.ref false 2,v4,v5,v6,.undef,.undef,.undef,.undef,.undef],[.dctI E1,.dctI E2,.list []],H⟩ ∧ GB (zipsOf pre) E1 E2) ⟨_,_,_,_,_,rfl,Nat.le_refl _,Nat.le_refl _,by simp [getK,zipsOf],by simp [getK,zipsOf]⟩ ?_ ?_
  ·rintro pre S post σ e ⟨v4,v5,v6,E1,E2,rfl,hG⟩
   have hsl:sumLen pre + S.length < 60:=by rw [e,sumLen_app,show S :: post = [S] ++ post from rfl,sumLen_app,sumLen_one] at hl; lia
   have hzl:=zipsOf_len pre
   have hz:zipsOf (pre ++ [S]) = zipsOf pre ++ S.zip (lawGrowths S):=by unfold zipsOf; rw [List.flatMap_append]; simp
   rw [hz]
   walk_at "m go"
   refine callX (g_law_growths_is S (by lia) _) ?_
   walk_at "m go"
   rw [zip_is]
   refine ws_forI (fun x:Row × Option Int=>V.tup [rowV x.1,optV x.2]) (S.zip (lawGrowths S)) (fun pr σ=>Ex4 fun v5 v6 E1 E2=>σ = ⟨[.lst (ring.map rowsV),.ref false 0,.ref false 1,.ref false 2,rowsV S,v5,v6,.undef,.undef,.undef,.undef,.undef],[.dctI E1,.dctI E2,.list []],H⟩ ∧ GB (zipsOf pre ++ pr) E1 E2) ⟨_,_,_,_,rfl,by rw [List.append_nil]; exact hG⟩ ?_ ?_
   ·rintro pr ⟨r,g⟩ pst σ e2 ⟨v5,v6,E1,E2,rfl,hG⟩
    have hpr:pr.length ≤ S.length:=by
     have:=congrArg List.length e2
     rw [List.length_zip,List.length_append] at this
     lia
    have g1:=hG.l1
    have g2:=hG.l2
    rw [List.length_append] at g1 g2
    rw [← List.append_assoc]
    walk_at "m go"
    ·exact ⟨_,_,_,_,rfl,hG.bad (x:=(r,g)) (by assumption)⟩
    ·exact ⟨_,_,_,_,rfl,hG.good (x:=(r,g)) (by assumption)⟩
   ·rintro σ ⟨v5,v6,E1,E2,rfl,hG⟩
    walk_at "m go"
    exact ⟨_,_,_,_,_,rfl,hG⟩
  ·rintro σ ⟨v4,v5,v6,E1,E2,rfl,hG⟩
   exact ⟨_,_,_,_,_,rfl,hG⟩
 rintro σ ⟨v4,v5,v6,E1,E2,rfl,hG⟩
 have hC:∃ C:Int -> Bool,C = fun k=>(getK E1 k).isSome && !(getK E2 k).isSome:=⟨_,rfl⟩
 obtain ⟨C,hC⟩:=hC
 have hCk:∀ k,C k = true ↔ (∃ x ∈ zipsOf ring,x.1.dst = k ∧ x.2.isSome = true) ∧ ¬ ∃ x ∈ zipsOf ring,x.1.dst = k ∧ x.2.isNone = true:=by
  intro k
  rw [hC,← hG.m1,← hG.m2]
  simp
 refine ws_step (fun σ=>Ex4 fun v4 v5 v6 v7=>σ = ⟨[.lst (ring.map rowsV),.ref false 0,.ref false 1,.ref false 2,v4,v5,v6,v7,.undef,.undef,.undef,.undef],[.dctI E1,.dctI E2,.list ((nubO (ring.flatten.map (pairIn C))).map pairV)],H⟩) ?_ ?_
 ·walk_at "m go"
  refine ws_forI rowsV ring (fun pre σ=>Ex4 fun v4 v5 v6 v7=>σ = ⟨[.lst (ring.map rowsV),.ref false 0,.ref false 1,.ref false 2,v4,v5,v6,v7,.undef,.undef,.undef,.undef],[.dctI E1,.dctI E2,.list ((nubO (pre.flatten.map (pairIn C))).map pairV)],H⟩) ⟨_,_,_,_,rfl⟩ ?_ ?_
  ·rintro pre S post σ e ⟨v4,v5,v6,v7,rfl⟩
   have hsl:sumLen pre + S.length < 60:=by rw [e,sumLen_app,show S :: post = [S] ++ post from rfl,sumLen_app,sumLen_one] at hl; lia
   have hz:(pre ++ [S]).flatten = pre.flatten ++ S:=by simp
   rw [hz]
   walk_at "m go"
   refine ws_forI rowV S (fun pr σ=>Ex3 fun v5 v6 v7=>σ = ⟨[.lst (ring.map rowsV),.ref false 0,.ref false 1,.ref false 2,rowsV S,v5,v6,v7,.undef,.undef,.undef,.undef],[.dctI E1,.dctI E2,.list ((nubO ((pre.flatten ++ pr).map (pairIn C))).map pairV)],H⟩) ⟨_,_,_,by rw [List.append_nil]; rfl⟩ ?_ ?_
   ·rintro pr r pst σ e2 ⟨v5,v6,v7,rfl⟩
    have hpr:pr.length < S.length:=by rw [e2]; simp
    have hnl:=nubO_len ((pre.flatten ++ pr).map (pairIn C))
    rw [List.length_map,List.length_append,flatten_len] at hnl
    have hnx:nubO ((pre.flatten ++ (pr ++ [r])).map (pairIn C)) = addO (nubO ((pre.flatten ++ pr).map (pairIn C))) (pairIn C r):=by rw [← List.append_assoc,List.map_append,List.map_cons,List.map_nil,nubO_app]
    rw [hnx]
    generalize nubO ((pre.flatten ++ pr).map (pairIn C)) = N at hnl
    walk_at "m go"
    refine callX (g_law_pair_is _ _) ?_
    cases hp:lawPair r with
    | none =>
     rw [pairIn_none hp]
     walk_at "m go"
     exact ⟨_,_,_,rfl⟩
    | some p =>
     rw [pairIn_some hp]
     have hCp:C p.1 = ((getK E1 p.1).isSome && !(getK E2 p.1).isSome):=by rw [hC]
     walk_at "m go"
     refine ansX (idx_p0 p) ?_
     walk_at "m go"
     refine ansX (in_dctI (by exact rfl)) ?_
     cases h1:(getK E1 p.1).isSome
     ·rw [show addO N (if C p.1 then some p else none) = N by rw [hCp,h1]; rfl]
      walk_at "m go"
      exact ⟨_,_,_,rfl⟩
     ·walk_at "m go"
      refine ansX (idx_p0 p) ?_
      walk_at "m go"
      refine ansX (nin_dctI (by exact rfl)) ?_
      cases h2:(getK E2 p.1).isSome
      ·refine iteT rfl ?_
       walk_at "m go"
       refine ansX (nin_pairs (ps:=N) (p:=p) (by exact rfl)) ?_
       by_cases hm:p ∈ N
       ·rw [decide_eq_true hm,show addO N (if C p.1 then some p else none) = N by rw [hCp,h1,h2]; exact if_pos hm]
        refine iteF rfl ?_
        walk_at "m go"
        exact ⟨_,_,_,rfl⟩
       ·rw [decide_eq_false hm,show addO N (if C p.1 then some p else none) = N ++ [p] by rw [hCp,h1,h2]; exact if_neg hm,List.map_append]
        refine iteT rfl ?_
        walk_at "m go"
        exact ⟨_,_,_,rfl⟩
      ·rw [show addO N (if C p.1 then some p else none) = N by rw [hCp,h1,h2]; rfl]
       refine iteF rfl ?_
       walk_at "m go"
       exact ⟨_,_,_,rfl⟩
   ·refine xe3 fun v5 v6 v7=>?_
    walk_at "m go"
    exact ⟨_,_,_,_,rfl⟩
  ·refine xe4 fun v4 v5 v6 v7=>?_
   exact ⟨_,_,_,_,rfl⟩
 refine xe4 fun v4 v5 v6 v7=>?_
 have hnl:=nubO_len (ring.flatten.map (pairIn C))
 rw [List.length_map,flatten_len] at hnl
 walk_at "m go"
 exact ⟨_,pairsOf_pairV _,by exact nC ‹_› ‹_› (by decide),cl_pair _,rfl,C,hCk,rfl⟩
theorem take_range (l:List V):∀ n,(List.range n).filterMap (l[·]?) = l.take n:=by
 intro n
 induction n with
 | zero=>rfl
 | succ n ih =>
  rw [List.range_succ,List.filterMap_append,ih,List.take_add_one]
  congr 1
theorem sliceV_is (lo hi:Option Int) (vs:List V):sliceV lo hi vs = (vs.drop (lo.elim 0 (clipAt vs.length))).take ((hi.elim vs.length (clipAt vs.length)) - (lo.elim 0 (clipAt vs.length))):=by
 unfold sliceV
 rw [sliceBounds_plain]
 dsimp only
 rw [sliceRange_one,List.filterMap_map,← take_range]
 congr 1
 funext i
 simp [Function.comp,List.getElem?_drop]
theorem slice_one (v:V) (vs:List V) (h:vs.length < 1000000):sliceV none (some 1) (v :: vs) = [v]:=by
 rw [sliceV_is]
 have:clipAt (v :: vs).length 1 = 1:=by unfold clipAt; rw [List.length_cons]; simp; lia
 show ((v :: vs).drop 0).take (clipAt (v :: vs).length 1 - 0) = [v]
 rw [this]; rfl
theorem slice_mid (a b:V) (m:List V) (h:m.length < 1000000):sliceV (some 1) (some (-1)) (a :: (m ++ [b])) = m:=by
 rw [sliceV_is]
 have h1:clipAt (a :: (m ++ [b])).length 1 = 1:=by unfold clipAt; rw [List.length_cons,List.length_append]; simp; lia
 have h2:clipAt (a :: (m ++ [b])).length (-1) = m.length + 1:=by unfold clipAt; rw [List.length_cons,List.length_append]; simp; lia
 show ((a :: (m ++ [b])).drop (clipAt (a :: (m ++ [b])).length 1)).take (clipAt (a :: (m ++ [b])).length (-1) - clipAt (a :: (m ++ [b])).length 1) = m
 rw [h1,h2]
 show (m ++ [b]).take (m.length + 1 - 1) = m
 rw [Nat.add_sub_cancel,List.take_left]
noncomputable def cellAt (cells:List Int) (k:Int):Int:=cells.getD k.toNat 0
noncomputable def dueOf (cells:List Int) (ps:List PI):List Int:=cells ++ ps.map fun p=>cellAt cells p.1 * p.2 % 4294967296
noncomputable def PsOk (n:Nat) (ps:List PI):Prop:=∀ p ∈ ps,0 ≤ p.1 ∧ p.1 < n ∧ 0 ≤ p.2 ∧ p.2 < 4294967296
theorem g_law_due_is (cells:List Int) (c:Nat) (ps:List PI) (H:List O) (hc:H[c]? = some (.list (cells.map V.int))) (hp:PsOk cells.length ps) (hl:cells.length < 1000) (hl2:ps.length < 1000):g_law_due [.ref true c,.lst (ps.map pairV)] H = some (.lst ((dueOf cells ps).map V.int),H):=by
 refine run_eq ?_
 unfold m_law_due
 walk_at "m go"
 refine wp_compM pairV ps (fun pre out σ=>Ex2 fun u v=>σ = ⟨[.undef,u,v,.undef,.ref true c],[],H⟩ ∧ out = pre.map fun p=>V.int (cellAt cells p.1 * p.2 % 4294967296)) ⟨_,_,rfl,rfl⟩ ?_ ?_
 ·rintro pre p post out σ e ⟨u,v,rfl,rfl⟩
  obtain ⟨h0,h1,h2,h3⟩:=hp p (by rw [e]; simp)
  have hi:(cells.map V.int)[p.1.toNat]? = some (.int (cellAt cells p.1)):=by
   have:p.1.toNat < cells.length:=by exact tA ‹_› ‹_›
   simp [cellAt,List.getElem?_eq_getElem this]
  have hg:∀ σ:St,σ.heap = H -> getIdx σ (.ref true c) (.int p.1) = some (.int (cellAt cells p.1)):=fun σ e=>by
   have:=idx_ref (σ:=σ) (g:=true) (n:=c) (k:=p.1.toNat) (show σ.heap[c]? = _ by rw [e]; exact hc) (by exact tB ‹_› ‹_› (by decide)) hi
   rwa [Int.toNat_of_nonneg h0] at this
  walk_at "m go"
  refine ansX (hg _ rfl) ?_
  walk_at "m go"
  refine ansX (op_mul h2 h3) ?_
  walk_at "m go"
  exact ⟨_,_,rfl,by rw [List.map_append]; rfl⟩
 ·rintro out σ ⟨u,v,rfl,rfl⟩
  have hlo:∀ loc t,listOf? ⟨loc,t,H⟩ (.ref true c) = some (cells.map V.int):=fun loc t=>obind_of (obind_of (show (St.sel ⟨loc,t,H⟩ true)[c]? = _ from hc) rfl) rfl
  walk_at "m go"
  have e:cells.map V.int ++ ps.map (fun p=>V.int (cellAt cells p.1 * p.2 % 4294967296)) = (dueOf cells ps).map V.int:=by unfold dueOf; rw [List.map_append,List.map_map]; rfl
  refine ⟨_,_,hlo _ _,rfl,by rw [List.length_map,List.length_map]; unfold lid; (exact nR ‹_› ‹_› (by decide)),wp_outF ?_⟩
  rw [e]
  exact ⟨cl_int _,rfl,rfl⟩
theorem cellAt_set {cells:List Int} {d v k:Int} (h0:0 ≤ d) (h1:d < cells.length) (hk:0 ≤ k):cellAt (setc cells d v) k = if k = d then v else cellAt cells k:=by
 unfold cellAt setc
 rw [if_pos h0,List.getD_eq_getElem?_getD,List.getD_eq_getElem?_getD,List.getElem?_set]
 by_cases e:k = d
 ·subst e
  rw [if_pos rfl,if_pos rfl,if_pos (by exact tA ‹_› ‹_›)]; rfl
 ·rw [if_neg (by lia),if_neg e]
theorem setc_len {cells:List Int} {d v:Int}:(setc cells d v).length = cells.length:=by
 unfold setc; split
 ·exact List.length_set
 ·rfl
theorem doRow_len {cells:List Int} {r:Row}:(doRow cells r).length = cells.length:=by cases r <;> exact setc_len
theorem doRow_other {cells:List Int} {r:Row} {k:Int} (hr:r.dst < cells.length) (hk:0 ≤ k) (hd:k ≠ r.dst):cellAt (doRow cells r) k = cellAt cells k:=by
 have key:∀ v,cellAt (setc cells r.dst v) k = cellAt cells k:=fun v=>by
  by_cases h0:0 ≤ r.dst
  ·rw [cellAt_set h0 hr hk,if_neg hd]
  ·unfold setc; rw [if_neg h0]
 cases r <;> exact key _
theorem small_set {cells:List Int} {d v:Int} (hs:Small cells):Small (setc cells d (v % 4294967296)):=by
 unfold setc
 split
 ·intro x hx
  rcases List.mem_or_eq_of_mem_set hx with h | rfl
  ·exact hs x h
  ·exact ⟨Int.emod_nonneg _ (by decide),Int.emod_lt_of_pos _ (by decide)⟩
 ·exact hs
theorem small_do {cells:List Int} {r:Row} (hs:Small cells):Small (doRow cells r):=by cases r <;> exact small_set hs
set_option tactic.hygienic true in
theorem sum_val {cells:List Int} {r:Row} (hr:r.okIn cells.length) (hb:0 ≤ (lawSum r).1):doRow cells r = setc cells r.dst ((cellAt cells (lawSum r).1 + (lawSum r).2) % 4294967296):=by
 rcases r with ⟨o,d,a,b⟩ | ⟨o,d,a⟩
 ·cases o <;> cases a <;> cases b <;> first | (exfalso; revert hb; simp [lawSum,Arg.isR]; done) | skip
  ·rfl
  ·rename_i n i
   show setc cells d ((n + cellAt cells i) % 4294967296) = setc cells d ((cellAt cells i + n) % 4294967296)
   rw [Int.add_comm]
  ·rename_i i n
   show setc cells d ((cellAt cells i - n) % 4294967296) = setc cells d ((cellAt cells i + (0 - n) % 4294967296) % 4294967296)
   congr 1; lia
 ·exact absurd hb (by simp [lawSum])
theorem if_reg {i d x:Int} {p:Prop} [Decidable p] (h:p ↔ i = d):(if p then some x else none) = if i = d then some x else none:=by
 by_cases e:i = d
 ·rw [if_pos e,if_pos (h.mpr e)]
 ·rw [if_neg e,if_neg fun z=>e (h.mp z)]
theorem reg_iff {i d:Int} {b:Bool} (h:b = false):(Arg.reg i = .reg d ∧ b = false) ↔ i = d:=⟨fun z=>Arg.reg.inj z.1,fun z=>⟨congrArg _ z,h⟩⟩
theorem num_no {n d:Int} {p:Prop}:¬ (Arg.num n = .reg d ∧ p):=fun z=>nomatch z.1
theorem tt_no {p:Prop}:¬ (p ∧ true = false):=fun z=>Bool.noConfusion z.2
theorem sum_eq {r:Row} {d:Int} (hd:0 ≤ d):sumWith r d = if (lawSum r).1 = d then some (lawSum r).2 else none:=by
 have h1:none = if (-1:Int) = d then some (0:Int) else none:=(if_neg fun z=>absurd (z ▸ hd) (by decide)).symm
 cases r with
 | un o e a=>exact h1
 | bin o e a b =>
  cases o with
  | mul=>exact h1
  | add =>
   cases a with
   | reg i =>
    cases b with
    | reg j=>exact (if_neg tt_no).trans ((if_neg tt_no).trans h1)
    | num n=>
     rw [sw_add,if_neg (num_no (n:=n))]
     exact if_reg (x:=n) (reg_iff rfl)
   | num m =>
    cases b with
    | reg j =>
     rw [sw_add,if_neg (num_no (n:=m))]
     exact if_reg (x:=m) (reg_iff rfl)
    | num n=>exact h1
  | sub =>
   cases a with
   | reg i =>
    cases b with
    | reg j=>exact (if_neg tt_no).trans h1
    | num n =>
     rw [sw_sub,← Int.zero_sub]
     exact if_reg (x:=(0 - n) % 4294967296) (reg_iff rfl)
   | num m=>exact h1
theorem arg_neg {a:Arg} {k:Nat} {d:Int} (h:a.okIn k) (hd:¬ 0 ≤ d):¬ a = .reg d:=by
 rintro rfl
 exact hd h.1
theorem sum_neg {r:Row} {d:Int} {k:Nat} (hr:r.okIn k) (hd:¬ 0 ≤ d):sumWith r d = none:=by
 cases r with
 | un o e a=>rfl
 | bin o e a b =>
  obtain ⟨_,h1,h2⟩:=hr
  cases o with
  | add=>exact (if_neg fun z=>arg_neg h1 hd z.1).trans (if_neg fun z=>arg_neg h2 hd z.1)
  | sub=>exact if_neg fun z=>arg_neg h1 hd z.1
  | mul=>rfl
theorem turnOf_step {g:GS} {r:Row} {k:Int}:turnOf (gstep g r) k = if r.dst = k then turnOf g r.dst + 1 else turnOf g k:=by
 show (getK (putK g.turns r.dst _) k).getD 0 = _
 rw [getK_putK]
 split <;> rfl
theorem sums_step {g:GS} {r:Row} {k:Int}:getK (gstep g r).sums k = if r.dst = k then some (keptShape g r) else getK g.sums k:=getK_putK _ _ _ _
structure GI (g:GS):Prop where
 pos:∀ k,0 ≤ turnOf g k
 le:∀ k s,getK g.sums k = some s -> s.2.1 ≤ turnOf g s.1
theorem turnOf_le {g:GS} {r:Row} {k:Int}:turnOf g k ≤ turnOf (gstep g r) k:=by
 rw [turnOf_step]
 split
 ·rename_i h; rw [h]; lia
 ·exact Int.le_refl _
theorem kept_le {g:GS} (G:GI g) {r:Row}:(keptShape g r).2.1 ≤ turnOf g (keptShape g r).1:=by
 cases hc:r.op.is .copy
 ·rw [kept_no hc]; exact Int.le_refl _
 ·rw [kept_yes hc]; exact G.pos _
theorem GI.step {g:GS} (G:GI g) (r:Row):GI (gstep g r):=by
 refine ⟨fun k=>Int.le_trans (G.pos k) turnOf_le,fun k s h=>?_⟩
 rw [sums_step] at h
 split at h
 ·cases h
  exact Int.le_trans (kept_le G) turnOf_le
 ·exact Int.le_trans (G.le k s h) turnOf_le
theorem GI.zero:GI ⟨[],[],[]⟩:=⟨fun _=>Int.le_refl _,fun _ _ h=>by cases h⟩
theorem GI.fold {pre:List Row}:GI (pre.foldl gstep ⟨[],[],[]⟩):=by
 have:∀ (pre:List Row) (g:GS),GI g -> GI (pre.foldl gstep g):=by
  intro pre
  induction pre with
  | nil=>intro g h; exact h
  | cons r pre ih=>intro g h; exact ih _ (h.step r)
 exact this pre _ .zero
noncomputable def lookL (g:GS) (d s:Int):Option Int:=let sh:=(getK g.sums s).getD (-1,0,0); if sh.1 = d ∧ sh.2.1 = turnOf g d then some sh.2.2 else none
noncomputable def lookR (d s:Int):List Row -> Option Int
 | []=>none
 | q :: l=>if q.dst = d then none else if q.dst = s then sumWith q d else lookR d s l
theorem lookR_cons {d s:Int} {q:Row} {l:List Row}:lookR d s (q :: l) = if q.dst = d then none else if q.dst = s then sumWith q d else lookR d s l:=rfl
theorem look_eq {d s:Int} (hd:0 ≤ d) (pre:List Row):lookL (pre.foldl gstep ⟨[],[],[]⟩) d s = lookR d s pre.reverse:=by
 have:∀ l:List Row,lookL (l.reverse.foldl gstep ⟨[],[],[]⟩) d s = lookR d s l:=by
  intro l
  induction l with
  | nil=>show (if (-1:Int) = d ∧ _ then _ else _) = none; exact if_neg fun h=>by lia
  | cons q l ih =>
   rw [List.reverse_cons,List.foldl_append,List.foldl_cons,List.foldl_nil,lookR_cons]
   have G:GI (l.reverse.foldl gstep ⟨[],[],[]⟩):=GI.fold
   generalize l.reverse.foldl gstep ⟨[],[],[]⟩ = g at ih G
   unfold lookL at ih ⊢
   dsimp only at ih ⊢
   rw [sums_step,turnOf_step]
   by_cases h1:q.dst = d
   ·rw [if_pos h1,if_pos h1]
    refine if_neg fun h=>?_
    by_cases h2:q.dst = s
    ·rw [if_pos h2] at h
     have:=kept_le G (r:=q)
     obtain ⟨h3,h4⟩:=h
     change (keptShape g q).1 = d at h3
     change (keptShape g q).2.1 = _ at h4
     rw [h3,← h1] at this
     lia
    ·rw [if_neg h2] at h
     cases hs:getK g.sums s with
     | none=>rw [hs] at h; have:=h.1; change (-1:Int) = d at this; lia
     | some sh =>
      rw [hs] at h
      obtain ⟨h3,h4⟩:=h
      change sh.1 = d at h3
      change sh.2.1 = _ at h4
      have:=G.le s sh hs
      rw [h3,← h1] at this
      lia
   ·rw [if_neg h1,if_neg h1]
    by_cases h2:q.dst = s
    ·rw [if_pos h2,if_pos h2]
     show (if (keptShape g q).1 = d ∧ (keptShape g q).2.1 = turnOf g d then some (keptShape g q).2.2 else none) = _
     cases hc:q.op.is .copy
     ·rw [kept_no hc,sum_eq hd]
      by_cases h3:(lawSum q).1 = d
      ·rw [if_pos h3,if_pos ⟨h3,by show turnOf g (lawSum q).1 = _; rw [h3]⟩]
      ·rw [if_neg h3,if_neg fun h=>h3 h.1]
     ·rw [kept_yes hc,if_neg fun h=>by have:=h.1; change (-1:Int) = d at this; lia]
      rcases q with ⟨o,e,a,b⟩ | ⟨o,e,a⟩
      ·cases o <;> cases hc
      ·rfl
    ·rw [if_neg h2,if_neg h2]; exact ih
 have:=this pre.reverse
 rwa [List.reverse_reverse] at this
theorem seek_eq {S:List Row} {d s:Int}:∀ k,k ≤ S.length -> seek S d s k = lookR d s (S.take k).reverse:=by
 intro k
 induction k with
 | zero=>intro _; rfl
 | succ k ih =>
  intro hk
  have hq:S[k]? = some S[k]:=List.getElem?_eq_getElem (by (assumption))
  rw [seek_at hq,List.take_add_one,hq,Option.toList_some,List.reverse_append,List.reverse_singleton,List.singleton_append,lookR_cons,ih (by exact Nat.le_of_lt ‹_›)]
theorem lookR_neg {d s:Int} (hd:¬ 0 ≤ d) {k:Nat} (l:List Row) (h:∀ r ∈ l,r.okIn k):lookR d s l = none:=by
 induction l with
 | nil=>rfl
 | cons q l ih =>
  rw [lookR_cons,sum_neg (h q List.mem_cons_self) hd,ih fun r hr=>h r (List.mem_cons_of_mem _ hr),ite_self,ite_self]
noncomputable abbrev g00:GS:=⟨[],[],[]⟩
theorem grow_eq {S:List Row} {n k:Nat} {r:Row} (hr:S[n]? = some r) (hok:∀ q ∈ S,q.okIn k):(if isGrow ((S.take n).foldl gstep g00) r then some (shapeOf ((S.take n).foldl gstep g00) r).2.2 else none) = growthAt S n:=by
 have hn:n ≤ S.length:=Nat.le_of_lt (List.getElem?_eq_some_iff.mp hr).1
 have hrk:=hok r (List.mem_of_getElem? hr)
 unfold growthAt
 rw [hr]
 cases hc:r.op.is .copy
 ·have h1:(match (some r:Option Row) with | none=>none | some (.un .copy d (.reg s))=>seek S d s n | some r=>sumWith r r.dst) = sumWith r r.dst:=by
   rcases r with ⟨o,e,a,b⟩ | ⟨o,e,a⟩
   ·rfl
   ·cases o <;> first | rfl | (cases hc)
  refine Eq.trans ?_ h1.symm
  unfold isGrow
  rw [shape_no hc]
  by_cases hd:0 ≤ r.dst
  ·rw [sum_eq hd,decide_eq_true hd]
   by_cases h3:(lawSum r).1 = r.dst
   ·rw [if_pos h3]
    refine if_pos ?_
    simp [h3]
   ·rw [if_neg h3]
    refine if_neg ?_
    simp [h3]
  ·rw [sum_neg hrk hd,decide_eq_false hd]
   rfl
 ·rcases r with ⟨o,e,a,b⟩ | ⟨o,e,a⟩
  ·cases o <;> cases hc
  ·cases o
   ·cases a with
    | num m=>exact absurd (hrk.2.2 rfl) (by simp [Arg.isR])
    | reg s =>
     show _ = seek S e s n
     rw [seek_eq n hn]
     unfold isGrow
     rw [shape_yes hc]
     by_cases hd:0 ≤ e
     ·rw [← look_eq hd]
      unfold lookL
      generalize (S.take n).foldl gstep ⟨[],[],[]⟩ = g
      show (if (decide (0 ≤ e) && (decide (((getK g.sums s).getD (-1,0,0)).1 = e) && decide (((getK g.sums s).getD (-1,0,0)).2.1 = turnOf g e))) = true then some ((getK g.sums s).getD (-1,0,0)).2.2 else none) = if ((getK g.sums s).getD (-1,0,0)).1 = e ∧ ((getK g.sums s).getD (-1,0,0)).2.1 = turnOf g e then some ((getK g.sums s).getD (-1,0,0)).2.2 else none
      simp [hd]
     ·rw [lookR_neg hd _ (fun r h=>hok r (List.mem_of_mem_take (List.mem_reverse.mp h)))]
      refine if_neg ?_
      show ¬ (decide (0 ≤ e) && _) = true
      simp [hd]
   ·cases hc
   ·cases hc
theorem found_is {S:List Row} {k:Nat} (hok:∀ q ∈ S,q.okIn k):∀ n,n ≤ S.length -> ((S.take n).foldl gstep g00).found = (List.range n).map (growthAt S):=by
 intro n
 induction n with
 | zero=>intro _; rfl
 | succ n ih =>
  intro hn
  have hq:S[n]? = some S[n]:=List.getElem?_eq_getElem (by (assumption))
  have h:=grow_eq hq hok
  rw [List.take_add_one,hq,Option.toList_some,List.foldl_append,List.foldl_cons,List.foldl_nil,List.range_succ,List.map_append,← ih (by exact Nat.le_of_lt ‹_›)]
  show _ ++ [_] = _ ++ [growthAt S n]
  rw [← h]
theorem lawGrowths_is {S:List Row} {k:Nat} (hok:∀ q ∈ S,q.okIn k):lawGrowths S = (List.range S.length).map (growthAt S):=by
 have:=found_is hok S.length (Nat.le_refl _)
 rw [List.take_length] at this
 exact this
noncomputable def CI (g:GS) (old:List Int):Prop:=∀ k s,getK g.sums k = some s -> 0 ≤ k -> 0 ≤ s.1 -> s.2.1 = turnOf g s.1 -> cellAt old k = (cellAt old s.1 + s.2.2) % 4294967296
theorem copy_val {old:List Int} {d s:Int}:doRow old (.un .copy d (.reg s)) = setc old d (cellAt old s % 4294967296):=rfl
theorem CI.step {g:GS} {old:List Int} (h:CI g old) (G:GI g) {r:Row} (hr:r.okIn old.length):CI (gstep g r) (doRow old r):=by
 have hd:r.dst < old.length:=by cases r <;> exact hr.1
 intro k s hs hk hb ht
 rw [sums_step] at hs
 rw [turnOf_step] at ht
 by_cases e:r.dst = k
 ·rw [if_pos e] at hs
  cases hs
  cases hc:r.op.is .copy
  ·rw [kept_no hc] at hb ht ⊢
   dsimp only at hb ht ⊢
   have hne:¬ r.dst = (lawSum r).1:=fun z=>by rw [if_pos z,z] at ht; lia
   rw [doRow_other hd hb fun z=>hne z.symm,sum_val hr hb,← e,cellAt_set (by lia) hd (by lia),if_pos rfl]
  ·rw [kept_yes hc] at hb; exact absurd hb (by decide)
 ·rw [if_neg e] at hs
  have hle:=G.le k s hs
  have hne:¬ r.dst = s.1:=fun z=>by rw [if_pos z,z] at ht; lia
  rw [if_neg hne] at ht
  rw [doRow_other hd hk fun z=>e z.symm,doRow_other hd hb fun z=>hne z.symm]
  exact h k s hs hk hb ht
theorem CI.zero {old:List Int}:CI g00 old:=fun _ _ h=>by cases h
theorem CI.fold {pre:List Row}:∀ {g:GS} {old:List Int},GI g -> CI g old -> (∀ r ∈ pre,r.okIn old.length) -> CI (pre.foldl gstep g) (pre.foldl doRow old):=by
 induction pre with
 | nil=>exact fun _ h _=>h
 | cons r pre ih =>
  intro g old G h hr
  rw [List.foldl_cons,List.foldl_cons]
  exact ih (G.step r) (h.step G (hr r (by simp))) fun q hq=>by rw [doRow_len]; exact hr q (by simp [hq])
theorem grow_val {g:GS} {old:List Int} (h:CI g old) {r:Row} (hr:r.okIn old.length) (hg:isGrow g r = true):0 ≤ r.dst ∧ cellAt (doRow old r) r.dst = (cellAt old r.dst + (shapeOf g r).2.2) % 4294967296:=by
 have hd:r.dst < old.length:=by cases r <;> exact hr.1
 unfold isGrow at hg
 simp only [Bool.and_eq_true,decide_eq_true_eq] at hg
 obtain ⟨h0,h1,h2⟩:=hg
 refine ⟨h0,?_⟩
 cases hc:r.op.is .copy
 ·rw [shape_no hc] at h1 ⊢
  dsimp only at h1 ⊢
  rw [sum_val hr (by lia),cellAt_set h0 hd h0,if_pos rfl,h1]
 ·rw [shape_yes hc] at h1 h2 ⊢
  rcases r with ⟨o,e,a,b⟩ | ⟨o,e,a⟩
  ·cases o <;> cases hc
  ·cases o
   ·cases a with
    | num m=>exact absurd (hr.2.2 rfl) (by simp [Arg.isR])
    | reg s =>
     change 0 ≤ e at h0
     change e < old.length at hd
     change ((getK g.sums s).getD (-1,0,0)).1 = e at h1
     change ((getK g.sums s).getD (-1,0,0)).2.1 = turnOf g e at h2
     show cellAt (doRow old (.un .copy e (.reg s))) e = (cellAt old e + ((getK g.sums s).getD (-1,0,0)).2.2) % 4294967296
     have hs0:0 ≤ s:=hr.2.1.1
     rw [copy_val,cellAt_set h0 hd h0,if_pos rfl]
     cases hs:getK g.sums s with
     | none=>rw [hs] at h1; change (-1:Int) = e at h1; lia
     | some sh =>
      rw [hs] at h1 h2
      change sh.1 = e at h1
      change sh.2.1 = turnOf g e at h2
      show _ = (cellAt old e + sh.2.2) % 4294967296
      rw [h s sh hs hs0 (by lia) (by rw [h1]; exact h2),h1]
      lia
   ·cases hc
   ·cases hc
noncomputable def restOf (old:List Int) (ps:List PI):List Int:=ps.map fun p=>cellAt old p.1 * p.2 % 4294967296
theorem cell_app {old rest:List Int} {k:Int} (h0:0 ≤ k) (h1:k < old.length):cellAt (old ++ rest) k = cellAt old k:=by
 unfold cellAt
 rw [List.getD_eq_getElem?_getD,List.getD_eq_getElem?_getD,List.getElem?_append_left (by exact tA ‹_› ‹_›)]
theorem mod_grow (c g n:Int):(c + g) % 4294967296 * n % 4294967296 = (c * n % 4294967296 + g * n % 4294967296) % 4294967296:=by
 rw [Int.mul_emod,Int.emod_emod_of_dvd _ (Int.dvd_refl _),← Int.mul_emod,Int.add_mul,Int.add_emod]
theorem val_app {old rest:List Int} {a:Arg} (h:a.okIn old.length):a.val (old ++ rest) = a.val old:=by
 cases a with
 | reg i=>exact cell_app h.1 h.2
 | num n=>rfl
theorem setc_app {old rest:List Int} {d v:Int} (h:d < old.length):setc (old ++ rest) d v = setc old d v ++ rest:=by
 unfold setc
 split
 ·rw [List.set_append_left _ _ (by exact tA ‹_› ‹_›)]
 ·rfl
theorem app_do {old rest:List Int} {r:Row} (h:r.okIn old.length):doRow (old ++ rest) r = doRow old r ++ rest:=by
 rcases r with ⟨o,e,a,b⟩ | ⟨o,e,a⟩
 ·show setc (old ++ rest) e _ = setc old e _ ++ rest
  rw [val_app h.2.1,val_app h.2.2,setc_app h.1]
 ·show setc (old ++ rest) e _ = setc old e _ ++ rest
  rw [val_app h.2.1,setc_app h.1]
theorem setc_reg {old:List Int} {ps:List PI} {f:PI -> Int} {q:PI} {v:Int} (h5:old.length = 5) (nd:ps.Nodup) (hq:q ∈ ps):setc (old ++ ps.map f) (regOf ps q) v = old ++ ps.map fun p=>if p = q then v else f p:=by
 have hi:ps.idxOf q < ps.length:=List.idxOf_lt_length_of_mem hq
 unfold setc regOf
 rw [if_pos (by exact Int.natCast_nonneg _),show ((5:Int) + (ps.idxOf q:Nat)).toNat = old.length + ps.idxOf q by lia,List.set_append_right _ _ (by exact Nat.le_add_right _ _),Nat.add_sub_cancel_left]
 congr 1
 apply List.ext_getElem?
 intro i
 rw [List.getElem?_set,List.getElem?_map,List.getElem?_map,List.length_map]
 by_cases e:ps.idxOf q = i
 ·subst e
  rw [if_pos rfl,if_pos hi,List.getElem?_eq_getElem hi,List.getElem_idxOf]
  simp
 ·rw [if_neg e]
  cases hp:ps[i]? with
  | none=>rfl
  | some p =>
   have:¬ p = q:=by
    rintro rfl
    obtain ⟨h1,h2⟩:=List.getElem?_eq_some_iff.mp hp
    exact e (by rw [← h2]; exact List.Nodup.idxOf_getElem nd i h1)
   simp [this]
theorem cell_reg {old:List Int} {ps:List PI} {f:PI -> Int} {q:PI} (h5:old.length = 5) (hq:q ∈ ps):cellAt (old ++ ps.map f) (regOf ps q) = f q:=by
 have hi:ps.idxOf q < ps.length:=List.idxOf_lt_length_of_mem hq
 unfold cellAt regOf
 rw [show ((5:Int) + (ps.idxOf q:Nat)).toNat = old.length + ps.idxOf q by lia,List.getD_eq_getElem?_getD,List.getElem?_append_right (by exact Nat.le_add_right _ _),Nat.add_sub_cancel_left,List.getElem?_map,List.getElem?_eq_getElem hi,List.getElem_idxOf]
 rfl
set_option tactic.hygienic true in
theorem swap_do {old:List Int} {ps:List PI} {r:Row} (h5:old.length = 5) (hr:r.okIn 5):doRow (dueOf old ps) (swapped (regOf ps) ps r) = doRow old r ++ restOf old ps:=by
 have plain:doRow (dueOf old ps) r = doRow old r ++ restOf old ps:=app_do (by rw [h5]; exact hr)
 unfold swapped
 cases hp:productOf r (ctrsOf ps) with
 | none=>exact plain
 | some p =>
  dsimp only
  by_cases hq:p ∈ ps
  ·rw [if_pos hq]
   show setc (old ++ restOf old ps) r.dst (cellAt (old ++ restOf old ps) (regOf ps p) % 4294967296) = _
   unfold restOf
   rw [cell_reg h5 hq,setc_app (by rw [h5]; cases r <;> exact hr.1)]
   congr 1
   refine obind_elim (show (lawPair r).bind _ = some p from hp) fun p' hp2 z=>some_ifE z fun _ z=>?_
   subst z
   refine lawPair_elim hp2 (fun e i n e1 e2=>?_) fun e i n e1 e2=>?_
   ·subst e1; subst e2
    exact congrArg (setc old e) (Int.emod_emod_of_dvd _ (Int.dvd_refl _))
   ·subst e1; subst e2
    show setc old e _ = setc old e (n * cellAt old i % 4294967296)
    rw [Int.mul_comm n]
    exact congrArg (setc old e) (Int.emod_emod_of_dvd _ (Int.dvd_refl _))
  ·rw [if_neg hq]; exact plain
noncomputable def addRow (ps:List PI) (g:Int) (p:PI):Row:=.bin .add (regOf ps p) (.reg (regOf ps p)) (.num (g * p.2 % 4294967296))
theorem addsOf_eq {ps:List PI} {d g:Int}:addsOf (regOf ps) ps d g = ((sortP ps).filter fun p=>decide (p.1 = d)).map (addRow ps g):=rfl
theorem add_do {old:List Int} {ps:List PI} {f:PI -> Int} {q:PI} {g:Int} (h5:old.length = 5) (nd:ps.Nodup) (hq:q ∈ ps):doRow (old ++ ps.map f) (addRow ps g q) = old ++ ps.map fun p=>if p = q then (f p + g * p.2 % 4294967296) % 4294967296 else f p:=by
 show setc _ _ ((cellAt (old ++ ps.map f) (regOf ps q) + g * q.2 % 4294967296) % 4294967296) = _
 rw [cell_reg h5 hq,setc_reg h5 nd hq]
 congr 1
 apply List.map_congr_left
 intro p _
 by_cases e:p = q
 ·subst e; simp
 ·rw [if_neg e,if_neg e]
theorem adds_do {old:List Int} {ps:List PI} {g:Int} (h5:old.length = 5) (nd:ps.Nodup) (qs:List PI):∀ (f:PI -> Int),qs.Nodup -> (∀ q ∈ qs,q ∈ ps) -> (qs.map (addRow ps g)).foldl doRow (old ++ ps.map f) = old ++ ps.map fun p=>if p ∈ qs then (f p + g * p.2 % 4294967296) % 4294967296 else f p:=by
 induction qs with
 | nil=>intro f _ _; simp
 | cons q qs ih =>
  intro f hn hs
  rw [List.nodup_cons] at hn
  rw [List.map_cons,List.foldl_cons,add_do h5 nd (hs q (by simp)),ih _ hn.2 fun x hx=>hs x (by simp [hx])]
  congr 1
  apply List.map_congr_left
  intro p _
  by_cases e:p = q
  ·subst e
   rw [if_neg hn.1,if_pos rfl,if_pos (by simp)]
  ·by_cases h:p ∈ qs
   ·rw [if_pos h,if_neg e,if_pos (by simp [h])]
   ·rw [if_neg h,if_neg e,if_neg (by simp [h,e])]
theorem due_step {old:List Int} {ps:List PI} {S:List Row} {r:Row} {p:Nat} (h5:old.length = 5) (nd:ps.Nodup) (hp:PsOk 5 ps) (hr:r.okIn 5) (hg:r.dst ∈ ctrsOf ps -> ∃ g,growthAt S p = some g ∧ cellAt (doRow old r) r.dst = (cellAt old r.dst + g) % 4294967296) :
  (grownRow (regOf ps) ps S (r,p)).foldl doRow (dueOf old ps) = dueOf (doRow old r) ps:=by
 unfold grownRow
 rw [List.foldl_cons,swap_do h5 hr]
 have hd:r.dst < old.length:=by rw [h5]; cases r <;> exact hr.1
 dsimp only
 by_cases hc:r.dst ∈ ctrsOf ps
 ·rw [if_pos (List.contains_iff_mem.mpr hc)]
  obtain ⟨g,hgg,hv⟩:=hg hc
  rw [hgg,Option.getD_some,addsOf_eq]
  unfold restOf
  rw [adds_do (by rw [doRow_len]; exact h5) nd _ _ (((sortP_perm ps).nodup_iff.mpr nd).filter _) (fun q hq=>sortP_mem.mp ((List.mem_filter.mp hq).1)),dueOf]
  congr 1
  apply List.map_congr_left
  intro q hq
  by_cases e:q.1 = r.dst
  ·rw [if_pos (by rw [List.mem_filter]; exact ⟨sortP_mem.mpr hq,decide_eq_true e⟩),e,hv,mod_grow]
  ·rw [if_neg (by rw [List.mem_filter]; exact fun h=>e (of_decide_eq_true h.2)),doRow_other hd (hp q hq).1 e]
 ·rw [if_neg (by rw [List.contains_iff_mem]; exact hc),List.foldl_nil,dueOf]
  congr 1
  unfold restOf
  apply List.map_congr_left
  intro q hq
  rw [doRow_other hd (hp q hq).1 fun z=>hc (ctrsOf_mem.mpr ⟨q,hq,z⟩)]
theorem mul_do {old:List Int} {ps:List PI} {f:PI -> Int} {q:PI} (h5:old.length = 5) (nd:ps.Nodup) (hq:q ∈ ps) (hp:PsOk 5 ps):doRow (old ++ ps.map f) (mulRow ps q) = old ++ ps.map fun p=>if p = q then cellAt old p.1 * p.2 % 4294967296 else f p:=by
 refine hG9 fun P_ b_=>?_
 obtain ⟨h0,h1,h2,h3⟩:=hp q hq
 refine b_ ?_; clear b_ P_
 show setc _ _ (cellAt (old ++ ps.map f) q.1 * (q.2 % 4294967296) % 4294967296) = _
 rw [cell_app h0 (by rw [h5]; exact h1),setc_reg h5 nd hq,Int.emod_eq_of_lt h2 h3]
 congr 1
 apply List.map_congr_left
 intro p _
 by_cases e:p = q
 ·subst e; simp
 ·rw [if_neg e,if_neg e]
theorem muls_do {old:List Int} {ps:List PI} (h5:old.length = 5) (nd:ps.Nodup) (hp:PsOk 5 ps) (qs:List PI):∀ (f:PI -> Int),(∀ q ∈ qs,q ∈ ps) -> (qs.map (mulRow ps)).foldl doRow (old ++ ps.map f) = old ++ ps.map fun p=>if p ∈ qs then cellAt old p.1 * p.2 % 4294967296 else f p:=by
 induction qs with
 | nil=>intro f _; simp
 | cons q qs ih =>
  intro f hs
  rw [List.map_cons,List.foldl_cons,mul_do h5 nd (hs q (by simp)) hp,ih _ fun x hx=>hs x (by simp [hx])]
  congr 1
  apply List.map_congr_left
  intro p _
  by_cases e:p = q
  ·subst e; simp
  ·by_cases h:p ∈ qs
   ·rw [if_pos h,if_pos (by simp [h])]
   ·rw [if_neg h,if_neg e,if_neg (by simp [h,e])]
theorem app_dos {rest:List Int} {rows:List Row}:∀ {old:List Int},(∀ r ∈ rows,r.okIn old.length) -> rows.foldl doRow (old ++ rest) = rows.foldl doRow old ++ rest:=by
 induction rows with
 | nil=>exact fun _=>rfl
 | cons r rows ih =>
  intro old h
  rw [List.foldl_cons,List.foldl_cons,app_do (h r (by simp))]
  exact ih fun q hq=>by rw [doRow_len]; exact h q (by simp [hq])
theorem dos_len {rows:List Row}:∀ {old:List Int},(rows.foldl doRow old).length = old.length:=by
 induction rows with
 | nil=>intro _; rfl
 | cons r rows ih=>exact fun {old}=>(ih (old:=doRow old r)).trans doRow_len
theorem dos_small {rows:List Row}:∀ {old:List Int},Small old -> Small (rows.foldl doRow old):=by
 induction rows with
 | nil=>exact fun h=>h
 | cons r rows ih=>exact fun h=>ih (small_do h)
theorem due_zero {old:List Int} {ps:List PI} {A:List Row} (h5:old.length = 5) (nd:ps.Nodup) (hp:PsOk 5 ps) (hA:∀ r ∈ A,r.okIn 5):(A ++ ps.map (mulRow ps)).foldl doRow (old ++ ps.map fun _=>0) = dueOf (A.foldl doRow old) ps:=by
 rw [List.foldl_append,app_dos (by rw [h5]; exact hA),muls_do (by rw [dos_len]; exact h5) nd hp ps _ fun _ h=>h,dueOf]
 congr 1
 apply List.map_congr_left
 intro p h
 rw [if_pos h]
noncomputable def heap2 (H:List O) (old new:List Int):List O:=H ++ [.list (old.map V.int),.list (new.map V.int)]
section
variable {H:List O} {old new:List Int}
theorem heap2_old:(heap2 H old new)[H.length]? = some (.list (old.map V.int)):=by
 unfold heap2; rw [List.getElem?_append_right (Nat.le_refl _),Nat.sub_self]; rfl
theorem heap2_new:(heap2 H old new)[H.length + 1]? = some (.list (new.map V.int)):=by
 unfold heap2; rw [List.getElem?_append_right (by exact Nat.le_succ _:H.length ≤ H.length + 1),Nat.add_sub_cancel_left]; rfl
theorem do_old {r:Row} (hr:r.okIn old.length) (hs:Small old) (hl:old.length < 1000):g_law_do [.ref true H.length,rowV r] (heap2 H old new) = some (.none,heap2 H (doRow old r) new):=by
 rw [g_law_do_is r old H.length _ heap2_old hr hs (by unfold lid; (exact nA ‹_› (by decide)))]
 unfold heap2
 rw [List.set_append_right _ _ (Nat.le_refl _),Nat.sub_self]; rfl
theorem do_new {r:Row} (hr:r.okIn new.length) (hs:Small new) (hl:new.length < 1000):g_law_do [.ref true (H.length + 1),rowV r] (heap2 H old new) = some (.none,heap2 H old (doRow new r)):=by
 rw [g_law_do_is r new (H.length + 1) _ heap2_new hr hs (by unfold lid; (exact nA ‹_› (by decide)))]
 unfold heap2
 rw [List.set_append_right _ _ (by exact Nat.le_succ _:H.length ≤ H.length + 1),Nat.add_sub_cancel_left]; rfl
theorem due_now {ps:List PI} (hp:PsOk old.length ps) (hl:old.length < 1000) (hl2:ps.length < 1000):g_law_due [.ref true H.length,.lst (ps.map pairV)] (heap2 H old new) = some (.lst ((dueOf old ps).map V.int),heap2 H old new):=g_law_due_is old H.length ps _ heap2_old hp hl hl2
theorem ne_new {loc:List V} {t:List O} {xs:List Int}:cNe ⟨loc,t,heap2 H old new⟩ (.ref true (H.length + 1)) (.lst (xs.map V.int)) = some (!decide (new = xs)):=by
 have:V.res ⟨loc,t,heap2 H old new⟩ (.ref true (H.length + 1)) = .lst (new.map V.int):=by
  show (((St.sel ⟨loc,t,heap2 H old new⟩ true)[H.length + 1]?).bind O.listed).elim (V.ref true (H.length + 1)) V.lst = _
  rw [show (St.sel ⟨loc,t,heap2 H old new⟩ true)[H.length + 1]? = _ from heap2_new]
  rfl
 unfold cNe
 rw [this]
 show (eqV (.lst (new.map V.int)) (.lst (xs.map V.int))).map _ = _
 rw [eqV_emb emb_int.list (by decide) new xs]
 rfl
theorem list_old {loc:List V} {t:List O}:listOf? ⟨loc,t,H ++ [O.list (old.map V.int)]⟩ (.ref true H.length) = some (old.map V.int):=by
 exact obind_of (obind_of (show (St.sel ⟨loc,t,H ++ [O.list (old.map V.int)]⟩ true)[H.length]? = some (.list (old.map V.int)) by show (H ++ [O.list (old.map V.int)])[H.length]? = _; simp) rfl) rfl
end
theorem argIn_up {a:Arg} {k m:Nat} (h:a.okIn k) (hk:k ≤ m):a.okIn m:=by
 cases a with
 | reg i=>exact ⟨h.1,by have:=h.2; lia⟩
 | num n=>exact h
theorem okIn_up {r:Row} {k m:Nat} (h:r.okIn k) (hk:k ≤ m):r.okIn m:=by
 rcases r with ⟨o,e,a,b⟩ | ⟨o,e,a⟩
 ·exact ⟨by have:=h.1; lia,argIn_up h.2.1 hk,argIn_up h.2.2 hk⟩
 ·exact ⟨by have:=h.1; lia,argIn_up h.2.1 hk,h.2.2⟩
theorem reg_lt {ps:List PI} {p:PI} (hp:p ∈ ps):5 ≤ regOf ps p ∧ regOf ps p < ((5 + ps.length:Nat):Int):=by
 have:=List.idxOf_lt_length_of_mem hp
 unfold regOf; lia
theorem mod_range (x:Int):0 ≤ x % 4294967296 ∧ x % 4294967296 < 4294967296:=⟨Int.emod_nonneg _ (by decide),Int.emod_lt_of_pos _ (by decide)⟩
theorem mulRow_ok {ps:List PI} {p:PI} (hp:p ∈ ps) (ok:PsOk 5 ps):(mulRow ps p).okIn (5 + ps.length):=by
 obtain ⟨h0,h1,h2,h3⟩:=ok p hp
 have:=reg_lt hp
 exact ⟨this.2,⟨h0,by lia⟩,mod_range _⟩
theorem addRow_ok {ps:List PI} {p:PI} {g:Int} (hp:p ∈ ps):(addRow ps g p).okIn (5 + ps.length):=by
 have:=reg_lt hp
 exact ⟨this.2,⟨by exact Int.natCast_nonneg _,this.2⟩,mod_range _⟩
theorem swapped_ok {ps:List PI} {r:Row} (hr:r.okIn 5):(swapped (regOf ps) ps r).okIn (5 + ps.length):=by
 unfold swapped
 split
 ·split
  ·rename_i hq
   have:=reg_lt hq
   have h5:r.dst < 5:=by cases r <;> exact hr.1
   exact ⟨by lia,⟨by exact Int.natCast_nonneg _,this.2⟩,fun _=>rfl⟩
  ·exact okIn_up hr (by exact Nat.le_add_right _ _)
 ·exact okIn_up hr (by exact Nat.le_add_right _ _)
theorem swapped_dst {ps:List PI} {r:Row}:(swapped (regOf ps) ps r).dst = r.dst:=by
 unfold swapped
 split
 ·split <;> rfl
 ·rfl
theorem small_zeros {old:List Int} {ps:List PI} (h:Small old):Small (old ++ ps.map fun _=>(0:Int)):=by
 intro x hx
 rcases List.mem_append.mp hx with h1 | h1
 ·exact h x h1
 ·obtain ⟨_,_,rfl⟩:=List.mem_map.mp h1; decide
theorem small_due {old:List Int} {ps:List PI} (h:Small old):Small (dueOf old ps):=by
 intro x hx
 rcases List.mem_append.mp hx with h1 | h1
 ·exact h x h1
 ·obtain ⟨_,_,rfl⟩:=List.mem_map.mp h1; exact mod_range _
theorem due_len {old:List Int} {ps:List PI}:(dueOf old ps).length = old.length + ps.length:=by unfold dueOf; rw [List.length_append,List.length_map]
theorem ne_rows {σ:St} {X Y:List Row}:cNe σ (rowsV X) (rowsV Y) = some (!decide (X = Y)):=by
 show (eqV (rowsV X) (rowsV Y)).map _ = _
 rw [show eqV (rowsV X) (rowsV Y) = _ from eqV_emb emb_row.list (by decide) X Y]; rfl
theorem eq_rows {σ:St} {X Y:List Row}:cEq σ (rowsV X) (rowsV Y) = some (decide (X = Y)):=eqV_emb emb_row.list (by decide) X Y
noncomputable def laterOf (ps:List PI) (A:List Row) (ring:List (List Row)) (B:List Row):List (List Row):=(A ++ ps.map (mulRow ps)) :: (ring.map (grown (regOf ps) ps) ++ [B])
noncomputable def locK (H:List O) (parts later:List (List Row)) (visits:List Int) (ps:List PI) (v6 v7 v8 v9:V):List V:=[.lst (parts.map rowsV),.lst (later.map rowsV),.lst (visits.map V.int),.ref true H.length,.lst (ps.map pairV),.ref true (H.length + 1),v6,v7,v8,v9,.undef,.undef,.undef]
structure KeptOk (ps:List PI) (A:List Row) (ring:List (List Row)) (B:List Row) (visits:List Int) (old:List Int):Prop where
 nd:ps.Nodup
 len:ps.length < 60
 ok:PsOk 5 ps
 A1:∃ a,A = [a]
 Aok:∀ r ∈ A,r.okIn 5
 rok:∀ S ∈ ring,∀ r ∈ S,r.okIn 5
 rlen:∀ S ∈ ring,S.length < 100
 vis:∀ v ∈ visits,1 ≤ v ∧ v ≤ ring.length
 vlen:visits.length < 100
 o5:old.length = 5
 osm:Small old
 r3:ring.length ≤ 3
 Bl:B.length < 100
 grow:∀ S ∈ ring,∀ (p:Nat) (r:Row),S[p]? = some r -> r.dst ∈ ctrsOf ps -> (growthAt S p).isSome = true
 none:∀ S ∈ ring,∀ r ∈ S,∀ p,lawPair r = some p -> p ∈ ps -> productOf r (ctrsOf ps) = some p
theorem grow_here {S pr post:List Row} {r:Row} {cur:List Int} (e:S = pr ++ r :: post) (hok:∀ q ∈ S,q.okIn 5) (h5:cur.length = 5) (hs:(growthAt S pr.length).isSome = true) :
  ∃ g,growthAt S pr.length = some g ∧ cellAt (doRow (pr.foldl doRow cur) r) r.dst = (cellAt (pr.foldl doRow cur) r.dst + g) % 4294967296:=by
 have hr:S[pr.length]? = some r:=by rw [e]; simp
 have h:=grow_eq hr hok
 have ht:S.take pr.length = pr:=by rw [e,List.take_left]
 rw [ht] at h
 have C:CI (pr.foldl gstep g00) (pr.foldl doRow cur):=CI.fold GI.zero CI.zero fun q hq=>by rw [h5]; exact hok q (by rw [e]; simp [hq])
 cases hg:isGrow (pr.foldl gstep g00) r
 ·rw [hg,if_neg (by decide)] at h
  rw [← h] at hs; cases hs
 ·rw [hg,if_pos rfl] at h
  exact ⟨_,h.symm,(grow_val C (by rw [dos_len,h5]; exact hok r (by rw [e]; simp)) hg).2⟩
noncomputable def addsAt (ps:List PI) (S:List Row) (r:Row) (p:Nat):List Row:=if (ctrsOf ps).contains r.dst then addsOf (regOf ps) ps r.dst ((growthAt S p).getD 0) else []
theorem adds_mem {ps:List PI} {S:List Row} {r q:Row} {p:Nat} (h:q ∈ addsAt ps S r p):Ex2 fun x g=>x ∈ ps ∧ q = addRow ps g x:=by
 unfold addsAt at h
 split at h
 ·rw [addsOf_eq] at h
  obtain ⟨x,hx,rfl⟩:=List.mem_map.mp h
  exact ⟨x,_,sortP_mem.mp (List.mem_filter.mp hx).1,rfl⟩
 ·cases h
theorem adds_len {ps:List PI} {S:List Row} {r:Row} {p:Nat}:(addsAt ps S r p).length ≤ ps.length:=by
 unfold addsAt
 split
 ·rw [addsOf_eq,List.length_map]
  refine Nat.le_trans (List.length_filter_le _ _) ?_
  rw [(sortP_perm ps).length_eq]
  exact Nat.le_refl _
 ·exact Nat.zero_le _
noncomputable def upTo (ps:List PI) (S pr:List Row):List Row:=pr.zipIdx.flatMap (grownRow (regOf ps) ps S)
theorem upTo_step {ps:List PI} {S pr:List Row} {r:Row}:upTo ps S (pr ++ [r]) = upTo ps S pr ++ swapped (regOf ps) ps r :: addsAt ps S r pr.length:=by
 unfold upTo
 rw [List.zipIdx_append,List.flatMap_append]
 show _ ++ List.flatMap _ [(r,0 + pr.length)] = _
 rw [Nat.zero_add,List.flatMap_cons,List.flatMap_nil,List.append_nil]
 rfl
theorem grown_at {ps:List PI} {S pr post:List Row} {r:Row} (e:S = pr ++ r :: post) :
  ∃ Lq:List Row,grown (regOf ps) ps S = upTo ps S pr ++ (swapped (regOf ps) ps r :: addsAt ps S r pr.length ++ Lq) ∧ ∀ q,Lq[0]? = some q -> ∃ x ∈ S,q.dst = x.dst:=by
 refine ⟨(post.zipIdx (pr.length + 1)).flatMap (grownRow (regOf ps) ps S),?_,?_⟩
 ·have:S.zipIdx = pr.zipIdx ++ ((r,pr.length) :: post.zipIdx (pr.length + 1)):=by
   rw [e,List.zipIdx_append,Nat.zero_add,List.zipIdx_cons]
  unfold grown
  rw [this,List.flatMap_append,List.flatMap_cons]
  rfl
 ·intro q hq
  cases post with
  | nil=>exact none_some hq
  | cons x post =>
   refine ⟨x,by rw [e]; simp,?_⟩
   rw [List.zipIdx_cons,List.flatMap_cons] at hq
   cases hq
   exact swapped_dst
theorem row_len {ps:List PI} {S:List Row}:(grown (regOf ps) ps S).length ≤ S.length * (ps.length + 1):=by
 have:=flat_len (reg:=regOf ps) (ps:=ps) (rows:=S) S.zipIdx
 rw [List.length_zipIdx] at this
 exact this
theorem next_row {ps:List PI} {S pr post:List Row} {r:Row} (e:S = pr ++ r :: post) (hok:∀ q ∈ S,q.okIn 5) {j:Nat} (hj:j ≤ (addsAt ps S r pr.length).length) :
  (j < (addsAt ps S r pr.length).length ∧ ∃ q,And4 ((grown (regOf ps) ps S)[(upTo ps S pr).length + 1 + j]? = some q) (q.okIn (5 + ps.length)) (4 < q.dst) ((addsAt ps S r pr.length).take (j + 1) = (addsAt ps S r pr.length).take j ++ [q]))
  ∨ (j = (addsAt ps S r pr.length).length ∧ ∃ q,(grown (regOf ps) ps S)[(upTo ps S pr).length + 1 + j]? = some q ∧ ¬ 4 < q.dst)
  ∨ (j = (addsAt ps S r pr.length).length ∧ (grown (regOf ps) ps S).length = (upTo ps S pr).length + 1 + j):=by
 obtain ⟨Lq,hL,hq⟩:=grown_at (ps:=ps) e
 rw [hL]
 have hidx:(upTo ps S pr ++ (swapped (regOf ps) ps r :: addsAt ps S r pr.length ++ Lq))[(upTo ps S pr).length + 1 + j]? = (addsAt ps S r pr.length ++ Lq)[j]?:=by
  rw [List.getElem?_append_right (by lia),show (upTo ps S pr).length + 1 + j - (upTo ps S pr).length = j + 1 by lia]; rfl
 rw [hidx]
 by_cases h:j < (addsAt ps S r pr.length).length
 ·left
  refine ⟨h,(addsAt ps S r pr.length)[j],?_,?_,?_,?_⟩
  ·rw [List.getElem?_append_left h,List.getElem?_eq_getElem h]
  ·obtain ⟨x,g,hx,he⟩:=adds_mem (List.getElem_mem h)
   rw [he]; exact addRow_ok hx
  ·obtain ⟨x,g,hx,he⟩:=adds_mem (List.getElem_mem h)
   rw [he]; have:=(reg_lt hx).1; show 4 < regOf ps x; (assumption)
  ·rw [List.take_add_one,List.getElem?_eq_getElem h]; rfl
 ·right
  have hj2:j = (addsAt ps S r pr.length).length:=by lia
  rw [List.getElem?_append_right (by exact Nat.le_of_not_lt ‹_›),show j - (addsAt ps S r pr.length).length = 0 by lia]
  cases Lq with
  | nil=>exact Or.inr ⟨hj2,by simp; lia⟩
  | cons q Lq =>
   obtain ⟨x,hx,hd⟩:=hq q rfl
   refine Or.inl ⟨hj2,q,rfl,?_⟩
   have:=hok x hx
   rw [hd]
   cases x <;> (have:=this.1; show ¬ 4 < _; simp only [Row.dst]; (exact Int.not_le.mpr ‹_›))
theorem getL_int {vs:List V} {i:Int} {v:V} (h0:0 ≤ i) (hk:i < 1000000) (h:vs[i.toNat]? = some v):getL vs i = some v:=by
 have e:i = (i.toNat:Nat):=by lia
 rw [e]; exact getL_of (by lia) h
theorem parts_at {A B S:List Row} {ring:List (List Row)} {v:Int} (h1:1 ≤ v) (h2:v ≤ ring.length) (hl:ring.length < 1000) (hS:ring[v.toNat - 1]? = some S):getL ((A :: (ring ++ [B])).map rowsV) v = some (rowsV S):=by
 refine getL_int (by lia) (by lia) ?_
 have e:v.toNat = (v.toNat - 1) + 1:=by lia
 rw [e,List.map_cons,List.getElem?_cons_succ,List.getElem?_map,List.getElem?_append_left (by lia),hS]; rfl
theorem parts_last {A B:List Row} {ring:List (List Row)} (hl:ring.length < 1000):getL ((A :: (ring ++ [B])).map rowsV) (-1) = some (rowsV B):=by
 have e:(A :: (ring ++ [B])).map rowsV = (rowsV A :: ring.map rowsV) ++ [rowsV B]:=by simp
 refine getL_last (by simp) (by simp; lia) ?_
 rw [e,← List.getLast?_eq_getElem?]
 exact List.getLast?_concat
theorem in_pairs {σ:St} (o:Option PI) (ps:List PI):cIn σ (optP o) (.lst (ps.map pairV)) = some (decide (∃ p,o = some p ∧ p ∈ ps)):=by
 show inV (optP o) (ps.map pairV) = _
 cases o with
 | none=>rw [optP,inV_none]; simp
 | some p=>rw [optP,inV_emb emb_pair (by decide) p ps]; simp
theorem grown_pair {ps:List PI} {S:List Row} (hn:∀ r ∈ S,∀ p,lawPair r = some p -> p ∈ ps -> productOf r (ctrsOf ps) = some p) {q:Row} (hq:q ∈ grown (regOf ps) ps S):¬ ∃ p,lawPair q = some p ∧ p ∈ ps:=by
 unfold grown at hq
 obtain ⟨⟨r,n⟩,hr,hq⟩:=List.mem_flatMap.mp hq
 have hrS:r ∈ S:=List.mem_of_getElem? (List.mem_zipIdx_iff_getElem?.mp hr)
 rintro ⟨p,h1,h2⟩
 unfold grownRow at hq
 rcases List.mem_cons.mp hq with rfl | hq
 ·unfold swapped at h1
  split at h1
  ·split at h1
   ·exact none_some h1
   ·rename_i q' hq' hn'
    have:=hn r hrS p h1 h2
    dsimp only at hq'
    rw [this] at hq'; cases hq'; exact hn' h2
  ·rename_i hq'
   have:=hn r hrS p h1 h2
   dsimp only at hq'
   rw [this] at hq'; cases hq'
 ·obtain ⟨x,g,_,rfl⟩:=adds_mem (S:=S) (p:=n) hq
  exact none_some h1
theorem is_kept {H:List O} {ps:List PI} {A B:List Row} {ring:List (List Row)} {visits old:List Int} (K:KeptOk ps A ring B visits old) :
  ∃ v H',g_law_is_kept [.lst ((A :: (ring ++ [B])).map rowsV),.lst ((laterOf ps A ring B).map rowsV),.lst (visits.map V.int),.ref true H.length,.lst (ps.map pairV)] (H ++ [.list (old.map V.int)]) = some (v,H') ∧ v = .bool true:=by
 refine run_of ?_
 unfold m_law_is_kept
 refine ws_step (fun σ=>σ = ⟨locK H (A :: (ring ++ [B])) (laterOf ps A ring B) visits ps .undef .undef .undef .undef,[],heap2 H old (old ++ ps.map fun _=>0)⟩) ?_ ?_
 ·walk_at "m go"
  refine wp_compM pairV ps (fun pre out σ=>∃ u,σ = ⟨[.undef,u],[],H ++ [.list (old.map V.int)]⟩ ∧ out = (pre.map fun _=>(0:Int)).map V.int) ⟨_,rfl,rfl⟩ ?_ ?_
  ·rintro pre p post out σ e ⟨u,rfl,rfl⟩
   walk_at "m go"
   exact ⟨_,rfl,by rw [List.map_append,List.map_append]; rfl⟩
  ·rintro out σ ⟨u,rfl,rfl⟩
   have:=K.len
   have:=K.o5
   have e:old.map V.int ++ (ps.map fun _=>(0:Int)).map V.int = (old ++ ps.map fun _=>0).map V.int:=by rw [List.map_append]
   refine ⟨by rw [List.length_map,List.length_map]; unfold lid; (exact nA ‹_› (by decide)),wp_outF ⟨_,_,list_old,rfl,by rw [List.length_map,List.length_map,List.length_map]; unfold lid; lia,wp_outT (by rw [e]; exact cl_int _) ?_⟩⟩
   rw [e]
   show St.mk _ _ ((H ++ [O.list (old.map V.int)]) ++ [_]) = _
   rw [List.append_assoc]
   unfold locK heap2
   have e9:(V.ref true (H ++ [O.list (old.map V.int)]).length) = V.ref true (H.length + 1):=by rw [List.length_append]; rfl
   rw [← e9]
   rfl
 rintro σ rfl
 have hp0:getL ((A :: (ring ++ [B])).map rowsV) 0 = some (rowsV A):=getL_of (k:=0) (by decide) rfl
 have hl0:getL ((laterOf ps A ring B).map rowsV) 0 = some (rowsV (A ++ ps.map (mulRow ps))):=getL_of (k:=0) (by decide) rfl
 have kl:=K.len
 have k5:=K.o5
 refine ws_step (fun σ=>∃ v6,σ = ⟨locK H (A :: (ring ++ [B])) (laterOf ps A ring B) visits ps v6 .undef .undef .undef,[],heap2 H (A.foldl doRow old) (old ++ ps.map fun _=>0)⟩) ?_ ?_
 ·walk_at "m go"
  refine ws_forI rowV A (fun pre σ=>∃ v6,σ = ⟨locK H (A :: (ring ++ [B])) (laterOf ps A ring B) visits ps v6 .undef .undef .undef,[],heap2 H (pre.foldl doRow old) (old ++ ps.map fun _=>0)⟩) ⟨_,rfl⟩ ?_ ?_
  ·rintro pre r post σ e ⟨v6,rfl⟩
   have hr:=K.Aok r (by rw [e]; simp)
   walk_at "m go"
   refine callX (do_old (by rw [dos_len,k5]; exact hr) (dos_small K.osm) (by rw [dos_len]; (exact nE ‹_› (by decide)))) ?_
   walk_at "m go"
   exact ⟨_,by rw [List.foldl_append]; rfl⟩
  ·refine xe1 fun v6=>?_
   exact ⟨_,rfl⟩
 refine xe1 fun v6=>?_
 refine ws_step (fun σ=>∃ v6,σ = ⟨locK H (A :: (ring ++ [B])) (laterOf ps A ring B) visits ps v6 .undef .undef .undef,[],heap2 H (A.foldl doRow old) (dueOf (A.foldl doRow old) ps)⟩) ?_ ?_
 ·have hall:∀ r ∈ A ++ ps.map (mulRow ps),r.okIn (5 + ps.length):=by
   intro r hr
   rcases List.mem_append.mp hr with h | h
   ·exact okIn_up (K.Aok r h) (by exact Nat.le_add_right _ _)
   ·obtain ⟨p,hp,rfl⟩:=List.mem_map.mp h
    exact mulRow_ok hp K.ok
  walk_at "m go"
  refine ws_forI rowV (A ++ ps.map (mulRow ps)) (fun pre σ=>∃ v6,σ = ⟨locK H (A :: (ring ++ [B])) (laterOf ps A ring B) visits ps v6 .undef .undef .undef,[],heap2 H (A.foldl doRow old) (pre.foldl doRow (old ++ ps.map fun _=>0))⟩) ⟨_,rfl⟩ ?_ ?_
  ·rintro pre r post σ e ⟨v6,rfl⟩
   have hr:=hall r (by rw [e]; simp)
   have hln:(pre.foldl doRow (old ++ ps.map fun _=>0)).length = 5 + ps.length:=by rw [dos_len,List.length_append,List.length_map,k5]
   have hsm:Small (old ++ ps.map fun _=>(0:Int)):=small_zeros K.osm
   walk_at "m go"
   refine callX (do_new (by rw [hln]; exact hr) (dos_small hsm) (by rw [hln]; lia)) ?_
   walk_at "m go"
   exact ⟨_,by rw [List.foldl_append]; rfl⟩
  ·refine xe1 fun v6=>?_
   rw [due_zero k5 K.nd K.ok K.Aok]
   exact ⟨_,rfl⟩
 refine xe1 fun v6=>?_
 have o5:(A.foldl doRow old).length = 5:=by rw [dos_len]; exact k5
 have osm:Small (A.foldl doRow old):=dos_small K.osm
 generalize A.foldl doRow old = old1 at o5 osm
 obtain ⟨a,rfl⟩:=K.A1
 have hsl:sliceV none (some (([a].map rowV).length:Nat)) (([a] ++ ps.map (mulRow ps)).map rowV) = [a].map rowV:=slice_one (rowV a) ((ps.map (mulRow ps)).map rowV) (by rw [List.length_map,List.length_map]; (exact nA ‹_› (by decide)))
 refine ws_step (fun σ=>σ = ⟨locK H ([a] :: (ring ++ [B])) (laterOf ps [a] ring B) visits ps v6 .undef .undef .undef,[],heap2 H old1 (dueOf old1 ps)⟩) ?_ ?_
 ·walk_at "m go"
  rw [hsl]
  refine ansX (ne_rows (X:=[a]) (Y:=[a])) ?_
  rw [decide_eq_true rfl]
  refine iteF rfl ?_
  walk_at "m go"
  refine callX (due_now (by rw [o5]; exact K.ok) (by exact nE ‹_› (by decide)) (by exact nA ‹_› (by decide))) ?_
  walk_at "m go"
  refine ansX ne_new ?_
  rw [decide_eq_true rfl]
  refine iteF rfl ?_
  walk_at "m go"
  rfl
 rintro σ rfl
 have r3:=K.r3
 refine ws_step (fun σ=>Ex4 fun v6 v7 v8 cur=>σ = ⟨locK H ([a] :: (ring ++ [B])) (laterOf ps [a] ring B) visits ps v6 v7 v8 .undef,[],heap2 H cur (dueOf cur ps)⟩) ?_ ?_
 ·walk_at "m go"
  refine ws_forI V.int visits (fun pre σ=>Ex4 fun v6 v7 v8 cur=>And3 (cur.length = 5) (Small cur) (σ = ⟨locK H ([a] :: (ring ++ [B])) (laterOf ps [a] ring B) visits ps v6 v7 v8 .undef,[],heap2 H cur (dueOf cur ps)⟩)) ⟨_,_,_,old1,o5,osm,rfl⟩ ?_ ?_
  ·rintro prev v postv σ ev ⟨v6',v7',v8',cur,c5,csm,rfl⟩
   have hv:=K.vis v (by rw [ev]; simp)
   obtain ⟨S,hS⟩:∃ S,ring[v.toNat - 1]? = some S:=⟨_,List.getElem?_eq_getElem (by exact tC ‹_›)⟩
   have hm:S ∈ ring:=List.mem_of_getElem? hS
   have hSok:=K.rok S hm
   have hSl:=K.rlen S hm
   have hpv:getL (([a] :: (ring ++ [B])).map rowsV) v = some (rowsV S):=parts_at hv.1 hv.2 (by exact nB ‹_› (by decide)) hS
   have hlv:getL ((laterOf ps [a] ring B).map rowsV) v = some (rowsV (grown (regOf ps) ps S)):=parts_at hv.1 (by rw [List.length_map]; exact hv.2) (by rw [List.length_map]; (exact nB ‹_› (by decide))) (by rw [List.getElem?_map,hS]; rfl)
   have hgl:(grown (regOf ps) ps S).length ≤ S.length * (ps.length + 1):=row_len
   have hgl2:S.length * (ps.length + 1) ≤ 100 * 60:=Nat.mul_le_mul (by exact Nat.le_of_lt ‹_›) (by (assumption))
   walk_at "m go"
   refine ws_forI rowV S (fun pr σ=>∃ v6,σ = ⟨locK H ([a] :: (ring ++ [B])) (laterOf ps [a] ring B) visits ps v6 (.int v) (.int ((upTo ps S pr).length:Nat)) .undef,[],heap2 H (pr.foldl doRow cur) (dueOf (pr.foldl doRow cur) ps)⟩) ⟨_,rfl⟩ ?_ ?_
   ·rintro pr r post σ e ⟨v6'',rfl⟩
    have hr:r.okIn 5:=hSok r (by rw [e]; simp)
    have c5':(pr.foldl doRow cur).length = 5:=by rw [dos_len]; exact c5
    have csm':Small (pr.foldl doRow cur):=dos_small csm
    have hgr:r.dst ∈ ctrsOf ps -> ∃ g,growthAt S pr.length = some g ∧ cellAt (doRow (pr.foldl doRow cur) r) r.dst = (cellAt (pr.foldl doRow cur) r.dst + g) % 4294967296:=fun h=>grow_here e hSok c5 (K.grow S hm pr.length r (by rw [e]; simp) h)
    have hstep:=due_step (S:=S) (p:=pr.length) c5' K.nd K.ok hr hgr
    have hnx:=fun j=>next_row (ps:=ps) e hSok (j:=j)
    obtain ⟨Lq,hLq,_⟩:=grown_at (ps:=ps) e
    have hsw:(grown (regOf ps) ps S)[(upTo ps S pr).length]? = some (swapped (regOf ps) ps r):=by rw [hLq,List.getElem?_append_right (Nat.le_refl _),Nat.sub_self]; rfl
    have hup:(upTo ps S pr).length < 6001:=by have:=(List.getElem?_eq_some_iff.mp hsw).1; lia
    have hfold:∀ x:List Row,x.foldl doRow (cur) = x.foldl doRow cur:=fun _=>rfl
    have hlast:(pr ++ [r]).foldl doRow cur = doRow (pr.foldl doRow cur) r:=by rw [List.foldl_append]; rfl
    rw [hlast]
    generalize pr.foldl doRow cur = c at c5' csm' hgr hstep hlast
    have hadl:=adds_len (ps:=ps) (S:=S) (r:=r) (p:=pr.length)
    have gsw:=rows_getL hsw (by exact nA ‹_› (by decide))
    walk_at "m go"
    refine callX (do_old (by rw [c5']; exact hr) csm' (by lia)) ?_
    walk_at "m go"
    refine callX (do_new (by rw [due_len,c5']; exact swapped_ok hr) (small_due csm') (by rw [due_len]; lia)) ?_
    walk_at "m go"
    refine ws_while (fun n σ=>∃ j,And3 (n = (addsAt ps S r pr.length).length - j) (j ≤ (addsAt ps S r pr.length).length) (σ = ⟨locK H ([a] :: (ring ++ [B])) (laterOf ps [a] ring B) visits ps (rowV r) (.int v) (.int (((upTo ps S pr).length + 1 + j:Nat):Int)) .undef,[],heap2 H (doRow c r) (((addsAt ps S r pr.length).take j).foldl doRow (doRow (dueOf c ps) (swapped (regOf ps) ps r)))⟩)) (addsAt ps S r pr.length).length (by lia) ⟨0,by (rfl),Nat.zero_le _,rfl⟩ ?_
    rintro n σ ⟨j,rfl,hj,rfl⟩
    have hl5:(((addsAt ps S r pr.length).take j).foldl doRow (doRow (dueOf c ps) (swapped (regOf ps) ps r))).length = 5 + ps.length:=by rw [dos_len,doRow_len,due_len,c5']
    have hs5:Small (((addsAt ps S r pr.length).take j).foldl doRow (doRow (dueOf c ps) (swapped (regOf ps) ps r))):=dos_small (small_do (small_due csm'))
    have hgll:((grown (regOf ps) ps S).map rowV).length = (grown (regOf ps) ps S).length:=List.length_map _
    have hend:j = (addsAt ps S r pr.length).length -> ((addsAt ps S r pr.length).take j).foldl doRow (doRow (dueOf c ps) (swapped (regOf ps) ps r)) = dueOf (doRow c r) ps:=fun e=>by
     rw [e,List.take_length]; exact hstep
    have hupl:j = (addsAt ps S r pr.length).length -> (upTo ps S (pr ++ [r])).length = (upTo ps S pr).length + 1 + j:=fun e=>by
     rw [upTo_step,List.length_append,List.length_cons]; lia
    rcases hnx j hj with ⟨hlt,q,hq,hqok,hq4,htk⟩ | ⟨he,q,hq,hq4⟩ | ⟨he,hlen⟩
    ·have hqi:=(List.getElem?_eq_some_iff.mp hq).1
     have ht:decide ((((upTo ps S pr).length + 1 + j:Nat):Int) < (((grown (regOf ps) ps S).map rowV).length:Nat)) = true:=decide_eq_true (by rw [hgll]; (exact Int.ofNat_lt.mpr ‹_›))
     have ht4:decide ((4:Int) < q.dst) = true:=decide_eq_true hq4
     have gq:=rows_getL hq (by lia)
     walk_at "m go"
     refine callX (do_new (by rw [hl5]; exact hqok) hs5 (by rw [hl5]; lia)) ?_
     walk_at "m go"
     exact ⟨(addsAt ps S r pr.length).length - (j + 1),by lia,j + 1,rfl,hlt,by rw [htk,List.foldl_append]; rfl⟩
    ·have hqi:=(List.getElem?_eq_some_iff.mp hq).1
     have ht:decide ((((upTo ps S pr).length + 1 + j:Nat):Int) < (((grown (regOf ps) ps S).map rowV).length:Nat)) = true:=decide_eq_true (by rw [hgll]; (exact Int.ofNat_lt.mpr ‹_›))
     have ht4:decide ((4:Int) < q.dst) = false:=decide_eq_false hq4
     have gq:=rows_getL hq (by lia)
     walk_at "m go"
     rw [hend he,hupl he]
     refine callX (due_now (by rw [doRow_len,c5']; exact K.ok) (by rw [doRow_len]; lia) (by lia)) ?_
     walk_at "m go"
     refine ansX ne_new ?_
     rw [decide_eq_true rfl]
     refine iteF rfl ?_
     walk_at "m go"
     exact ⟨_,rfl⟩
    ·have ht:decide ((((upTo ps S pr).length + 1 + j:Nat):Int) < (((grown (regOf ps) ps S).map rowV).length:Nat)) = false:=decide_eq_false (by rw [hgll]; lia)
     walk_at "m go"
     rw [hend he,hupl he]
     refine callX (due_now (by rw [doRow_len,c5']; exact K.ok) (by rw [doRow_len]; lia) (by lia)) ?_
     walk_at "m go"
     refine ansX ne_new ?_
     rw [decide_eq_true rfl]
     refine iteF rfl ?_
     walk_at "m go"
     exact ⟨_,rfl⟩
   ·refine xe1 fun v6''=>?_
    have hul:(upTo ps S S).length = (grown (regOf ps) ps S).length:=rfl
    have hne:(!decide ((((upTo ps S S).length:Nat):Int) = (((grown (regOf ps) ps S).map rowV).length:Nat))) = false:=by rw [decide_eq_true (by rw [List.length_map,hul])]; rfl
    walk_at "m go"
    exact ⟨_,_,_,S.foldl doRow cur,by rw [dos_len]; exact c5,dos_small csm,rfl⟩
  ·rintro σ ⟨v6',v7',v8',cur,_,_,rfl⟩
   exact ⟨_,_,_,_,rfl⟩
 refine xe4 fun v6' v7' v8' cur=>?_
 have hpl:getL (([a] :: (ring ++ [B])).map rowsV) (-1) = some (rowsV B):=parts_last (by exact nB ‹_› (by decide))
 have hll:getL ((laterOf ps [a] ring B).map rowsV) (-1) = some (rowsV B):=parts_last (by rw [List.length_map]; (exact nB ‹_› (by decide)))
 have hsl2:sliceV (some 1) (some (-1)) ((laterOf ps [a] ring B).map rowsV) = (ring.map (grown (regOf ps) ps)).map rowsV:=by
  unfold laterOf
  rw [List.map_cons,List.map_append]
  exact slice_mid _ (rowsV B) _ (by rw [List.length_map,List.length_map]; (exact nB ‹_› (by decide)))
 have hlen:((laterOf ps [a] ring B).map rowsV).length < lid:=by
  unfold laterOf lid
  simp only [List.length_map,List.length_cons,List.length_append,List.length_nil]; lia
 walk_at "m go"
 refine wp_comp2 ?_
 walk_at "m go"
 rw [hsl2]
 refine ⟨hlen,_,rfl,?_⟩
 refine wp_compM2 rowsV (ring.map (grown (regOf ps) ps)) (fun _ out σ=>out = [] ∧ ∃ u1 u2,σ = ⟨[.undef,u1,u2,.undef,.lst (ps.map pairV)],[],heap2 H cur (dueOf cur ps)⟩) ⟨rfl,_,_,rfl⟩ ?_ ?_
 ·rintro pre S post out σ e ⟨rfl,u1,u2,rfl⟩
  have hS:S ∈ ring.map (grown (regOf ps) ps):=by rw [e]; simp
  obtain ⟨S',hS',rfl⟩:=List.mem_map.mp hS
  walk_at "m go"
  refine wp_compM rowV (grown (regOf ps) ps S') (fun _ out σ=>out = [] ∧ ∃ u2,σ = ⟨[.undef,rowsV (grown (regOf ps) ps S'),u2,.undef,.lst (ps.map pairV)],[],heap2 H cur (dueOf cur ps)⟩) ⟨rfl,_,rfl⟩ ?_ ?_
  ·rintro pre q post out σ e ⟨rfl,u2,rfl⟩
   walk_at "m go"
   refine callX (g_law_pair_is q _) ?_
   walk_at "m go"
   refine ansX (in_pairs _ ps) ?_
   rw [decide_eq_false (grown_pair (K.none S' hS') (by rw [e]; simp))]
   exact iteF rfl ⟨rfl,_,rfl⟩
  ·rintro out σ ⟨rfl,u2,rfl⟩
   exact ⟨rfl,_,_,rfl⟩
 ·rintro out σ ⟨rfl,u1,u2,rfl⟩
  refine ⟨by decide,wp_outF (ws_seq (ws_ret (wp_and2 ?_)))⟩
  walk_at "m go"
  refine ansX (eq_rows (X:=[]) (Y:=[])) ?_
  walk_at "m go"
  refine ansX (eq_rows (X:=B) (Y:=B)) ?_
  rw [decide_eq_true rfl,decide_eq_true rfl]
  exact ⟨_,_,rfl,rfl,rfl,rfl,rfl,rfl⟩
section
variable {ring:List (List Row)} {B:List Row}
theorem trips_mem {n:Nat} (hn:n ≤ ring.length) {t:Trip}:t ∈ tripsOf (ring ++ [B]) (List.range' 1 n) ↔ Ex2 fun m S=>And4 (m < n) (ring[m]? = some S) (t.n = m + 1) (S[t.p]? = some t.r):=by
 unfold tripsOf
 rw [List.mem_flatMap]
 constructor
 ·rintro ⟨a,ha,h⟩
  rw [List.mem_range'_1] at ha
  have hS:ring[a - 1]? = some ring[a - 1]:=List.getElem?_eq_getElem (by exact tF ‹_› ‹_›)
  rw [List.getD_eq_getElem?_getD,List.getElem?_append_left (by exact tF ‹_› ‹_›),hS,Option.getD_some] at h
  unfold tripsIn at h
  obtain ⟨⟨r,p⟩,hx,rfl⟩:=List.mem_map.mp h
  exact ⟨a - 1,_,by exact tE ‹_›,hS,by show a = a - 1 + 1; (exact tG ‹_›),List.mem_zipIdx_iff_getElem?.mp hx⟩
 ·rintro ⟨m,S,hm,hS,hn',hr⟩
  refine ⟨m + 1,by rw [List.mem_range'_1]; omega,?_⟩
  rw [Nat.add_sub_cancel,List.getD_eq_getElem?_getD,List.getElem?_append_left (by exact Nat.le_trans ‹_› ‹_›),hS,Option.getD_some]
  obtain ⟨tn,tp,tr⟩:=t
  cases hn'
  exact List.mem_map.mpr ⟨(tr,tp),List.mem_zipIdx_iff_getElem?.mpr hr,rfl⟩
theorem trips_rows:∀ n,n ≤ ring.length -> (tripsOf (ring ++ [B]) (List.range' 1 n)).map (·.r) = (ring.take n).flatten:=by
 intro n
 induction n with
 | zero=>intro _; rfl
 | succ n ih =>
  intro hn
  have hS:ring[n]? = some ring[n]:=List.getElem?_eq_getElem (by (assumption))
  have hS':(ring ++ [B])[n]? = some ring[n]:=by rw [List.getElem?_append_left (by (assumption))]; exact hS
  rw [List.range'_1_concat,tripsOf_app,List.map_append,ih (by exact Nat.le_of_lt ‹_›),Nat.add_comm 1 n,tripsOf_one hS',List.take_add_one,hS,Option.toList_some,List.flatten_append]
  congr 1
  unfold tripsIn
  rw [List.map_map]
  show List.map Prod.fst _ = _
  rw [List.zipIdx_map_fst]; simp
theorem grow_trip {t:Trip} {m:Nat} {S:List Row} (hS:ring[m]? = some S) (ht:t.n = m + 1):growOf (ring ++ [B]) t = growthAt S t.p:=by
 unfold growOf
 rw [ht,Nat.add_sub_cancel,List.getD_eq_getElem?_getD,List.getElem?_append_left (List.getElem?_eq_some_iff.mp hS).1,hS]; rfl
theorem zips_mem {k:Nat} (hok:∀ S ∈ ring,∀ r ∈ S,r.okIn k) {x:Row × Option Int}:x ∈ zipsOf ring ↔ Ex3 fun (m:Nat) (S:List Row) (p:Nat)=>And3 (ring[m]? = some S) (S[p]? = some x.1) (x.2 = growthAt S p):=by
 unfold zipsOf
 rw [List.mem_flatMap]
 constructor
 ·rintro ⟨S,hS,h⟩
  obtain ⟨m,hm⟩:=List.mem_iff_getElem?.mp hS
  obtain ⟨p,hp⟩:=List.mem_iff_getElem?.mp h
  rw [lawGrowths_is (hok S hS),List.getElem?_zip_eq_some] at hp
  obtain ⟨h1,h2⟩:=hp
  have hl:=(List.getElem?_eq_some_iff.mp h1).1
  rw [List.getElem?_map,List.getElem?_range hl] at h2
  exact ⟨m,S,p,hm,h1,(Option.some.inj h2).symm⟩
 ·rintro ⟨m,S,p,hm,h1,h2⟩
  have hS:=List.mem_of_getElem? hm
  refine ⟨S,hS,List.mem_iff_getElem?.mpr ⟨p,?_⟩⟩
  rw [lawGrowths_is (hok S hS),List.getElem?_zip_eq_some,List.getElem?_map,List.getElem?_range (List.getElem?_eq_some_iff.mp h1).1,h2]
  exact ⟨h1,rfl⟩
end
theorem nubO_filter {α:Type} {f g:α -> Option PI} {p:α -> Bool} (l:List α):∀ (acc:List PI),(∀ t ∈ l,p t = true -> f t = g t) -> (∀ t ∈ l,p t = false -> g t = none) -> ((l.filter p).map f).foldl addO acc = (l.map g).foldl addO acc:=by
 induction l with
 | nil=>exact fun _ _ _=>rfl
 | cons t l ih =>
  intro acc h1 h2
  rw [List.map_cons,List.foldl_cons,List.filter_cons]
  cases e:p t
  ·rw [if_neg (by decide),h2 t (by simp) e]
   exact ih acc (fun x hx=>h1 x (by simp [hx])) fun x hx=>h2 x (by simp [hx])
  ·rw [if_pos rfl,List.map_cons,List.foldl_cons,h1 t (by simp) e]
   exact ih _ (fun x hx=>h1 x (by simp [hx])) fun x hx=>h2 x (by simp [hx])
theorem pair_mul {C:Int -> Bool} {r:Row} (h:r.op.is .mul = false):pairIn C r = none:=by
 rcases r with ⟨o,d,a,b⟩ | ⟨o,d,a⟩
 ·cases o
  ·rfl
  ·rfl
  ·cases h
 ·rfl
theorem pair_ks {C:Int -> Bool} {ks:List Int} {r:Row} (h:∀ k,ks.contains k = C k):productOf r ks = pairIn C r:=by
 exact congrArg (lawPair r).bind (funext fun p=>by rw [h])
theorem pair_of {C:Int -> Bool} {r:Row} {p:PI} (h:pairIn C r = some p):lawPair r = some p ∧ C p.1 = true:=by
 refine obind_elim (show (lawPair r).bind _ = some p from h) fun q e h=>some_ifE h fun hc z=>?_
 subst z
 exact ⟨e,hc⟩
theorem lawPair_ok {r:Row} {p:PI} {k:Nat} (hr:r.okIn k) (h:lawPair r = some p):0 ≤ p.1 ∧ p.1 < k ∧ 0 ≤ p.2 ∧ p.2 < 4294967296:=by
 refine lawPair_elim h (fun d i n e z=>?_) fun d i n e z=>?_
 ·subst e; subst z
  obtain ⟨_,h1,h2⟩:=hr
  exact ⟨h1.1,h1.2,h2.1,h2.2⟩
 ·subst e; subst z
  obtain ⟨_,h1,h2⟩:=hr
  exact ⟨h2.1,h2.2,h1.1,h1.2⟩
theorem lawPair_prod {r:Row} {p:PI} {ks:List Int} (h:lawPair r = some p) (hk:p.1 ∈ ks):productOf r ks = some p:=by
 exact obind_of h (if_pos (List.contains_iff_mem.mpr hk))
noncomputable def pairsOf (C:Int -> Bool) (ring:List (List Row)):List PI:=sortP (nubO (ring.flatten.map (pairIn C)))
noncomputable def IsC (C:Int -> Bool) (ring:List (List Row)):Prop:=∀ k,C k = true ↔ (∃ x ∈ zipsOf ring,x.1.dst = k ∧ x.2.isSome = true) ∧ ¬ ∃ x ∈ zipsOf ring,x.1.dst = k ∧ x.2.isNone = true
theorem grow_pos {S:List Row} {p:Nat} {r:Row} {k:Nat} (hok:∀ r ∈ S,r.okIn k) (hr:S[p]? = some r) (h:(growthAt S p).isSome = true):0 ≤ r.dst:=by
 have hg:=grow_eq hr hok
 cases e:isGrow ((S.take p).foldl gstep g00) r
 ·rw [e,if_neg (by decide)] at hg
  rw [← hg] at h; cases h
 ·unfold isGrow at e
  simp only [Bool.and_eq_true,decide_eq_true_eq] at e
  exact e.1
theorem ctr_is {ring:List (List Row)} {B:List Row} {C:Int -> Bool} {ks:List Int} (hok:∀ S ∈ ring,∀ r ∈ S,r.okIn 5) (hC:IsC C ring) (hks:∀ k,k ∈ ks ↔ IsCtr (ring ++ [B]) (tripsOf (ring ++ [B]) (List.range' 1 ring.length)) k) (k:Int):ks.contains k = C k:=by
 have h1:(∃ t ∈ tripsOf (ring ++ [B]) (List.range' 1 ring.length),t.r.dst = k ∧ 0 ≤ k ∧ (growOf (ring ++ [B]) t).isSome = true) ↔ ∃ x ∈ zipsOf ring,x.1.dst = k ∧ x.2.isSome = true:=by
  constructor
  ·rintro ⟨t,ht,hd,_,hg⟩
   obtain ⟨m,S,_,hS,hn,hr⟩:=(trips_mem (Nat.le_refl _)).mp ht
   rw [grow_trip hS hn] at hg
   exact ⟨(t.r,growthAt S t.p),(zips_mem hok).mpr ⟨m,S,t.p,hS,hr,rfl⟩,hd,hg⟩
  ·rintro ⟨⟨r,g⟩,hx,hd,hg⟩
   obtain ⟨m,S,p,hS,hr,rfl⟩:=(zips_mem hok).mp hx
   have hm:=(List.getElem?_eq_some_iff.mp hS).1
   have h0:=grow_pos (hok S (List.mem_of_getElem? hS)) hr hg
   exact ⟨⟨m + 1,p,r⟩,(trips_mem (Nat.le_refl _)).mpr ⟨m,S,hm,hS,rfl,hr⟩,hd,by rw [← hd]; exact h0,by rw [grow_trip hS rfl]; exact hg⟩
 have h2:0 ≤ k -> ((∃ t ∈ tripsOf (ring ++ [B]) (List.range' 1 ring.length),t.r.dst = k ∧ 0 ≤ k ∧ (growOf (ring ++ [B]) t).isNone = true) ↔ ∃ x ∈ zipsOf ring,x.1.dst = k ∧ x.2.isNone = true):=by
  intro h0
  constructor
  ·rintro ⟨t,ht,hd,_,hg⟩
   obtain ⟨m,S,_,hS,hn,hr⟩:=(trips_mem (Nat.le_refl _)).mp ht
   rw [grow_trip hS hn] at hg
   exact ⟨(t.r,growthAt S t.p),(zips_mem hok).mpr ⟨m,S,t.p,hS,hr,rfl⟩,hd,hg⟩
  ·rintro ⟨⟨r,g⟩,hx,hd,hg⟩
   obtain ⟨m,S,p,hS,hr,rfl⟩:=(zips_mem hok).mp hx
   have hm:=(List.getElem?_eq_some_iff.mp hS).1
   exact ⟨⟨m + 1,p,r⟩,(trips_mem (Nat.le_refl _)).mpr ⟨m,S,hm,hS,rfl,hr⟩,hd,h0,by rw [grow_trip hS rfl]; exact hg⟩
 rw [Bool.eq_iff_iff,List.contains_iff_mem,hks,hC,IsCtr,h1]
 constructor
 ·rintro ⟨a,b⟩
  obtain ⟨t,_,_,h0,_⟩:=h1.mpr a
  rw [h2 h0] at b
  exact ⟨a,b⟩
 ·rintro ⟨a,b⟩
  obtain ⟨t,_,_,h0,_⟩:=h1.mpr a
  rw [h2 h0]
  exact ⟨a,b⟩
theorem pairs_is {ring:List (List Row)} {B:List Row} {C:Int -> Bool} {ks:List Int} (hok:∀ S ∈ ring,∀ r ∈ S,r.okIn 5) (hC:IsC C ring) (hks:∀ k,k ∈ ks ↔ IsCtr (ring ++ [B]) (tripsOf (ring ++ [B]) (List.range' 1 ring.length)) k) :
  sortP (nubO ((mulsOf (tripsOf (ring ++ [B]) (List.range' 1 ring.length))).map fun t=>productOf t.r ks)) = pairsOf C ring:=by
 unfold pairsOf nubO mulsOf
 have h:=trips_rows (ring:=ring) (B:=B) ring.length (Nat.le_refl _)
 rw [List.take_length] at h
 rw [← h,List.map_map]
 congr 1
 exact nubO_filter _ _ (fun t _ _=>pair_ks (ctr_is hok hC hks)) fun t _ e=>pair_mul e
section
variable {ring:List (List Row)} {C:Int -> Bool}
theorem pairsOf_mem {p:PI}:p ∈ pairsOf C ring ↔ ∃ S ∈ ring,∃ r ∈ S,pairIn C r = some p:=by
 unfold pairsOf
 rw [sortP_mem,nubO_mem,List.mem_map]
 constructor
 ·rintro ⟨r,hr,h⟩
  obtain ⟨S,hS,hr⟩:=List.mem_flatten.mp hr
  exact ⟨S,hS,r,hr,h⟩
 ·rintro ⟨S,hS,r,hr,h⟩
  exact ⟨r,List.mem_flatten.mpr ⟨S,hS,hr⟩,h⟩
theorem pairsOf_nodup:(pairsOf C ring).Nodup:=(sortP_perm _).nodup_iff.mpr (nubO_nodup _)
theorem pairsOf_len:(pairsOf C ring).length ≤ sumLen ring:=by
 unfold pairsOf
 rw [sortP_len,← flatten_len]
 exact Nat.le_trans (nubO_len _) (by rw [List.length_map]; exact Nat.le_refl _)
theorem pairsOf_ok (hok:∀ S ∈ ring,∀ r ∈ S,r.okIn 5):PsOk 5 (pairsOf C ring):=fun p hp=>by
 obtain ⟨S,hS,r,hr,h⟩:=pairsOf_mem.mp hp
 exact lawPair_ok (hok S hS r hr) (pair_of h).1
theorem pairsOf_grow (hok:∀ S ∈ ring,∀ r ∈ S,r.okIn 5) (hC:IsC C ring) {S:List Row} (hS:S ∈ ring) {p:Nat} {r:Row} (hr:S[p]? = some r) (hd:r.dst ∈ ctrsOf (pairsOf C ring)):(growthAt S p).isSome = true:=by
 obtain ⟨q,hq,e⟩:=ctrsOf_mem.mp hd
 obtain ⟨_,_,_,_,h⟩:=pairsOf_mem.mp hq
 have hc:=((hC q.1).mp (pair_of h).2).2
 cases hg:growthAt S p with
 | some g=>rfl
 | none =>
  obtain ⟨m,hm⟩:=List.mem_iff_getElem?.mp hS
  exact absurd ⟨(r,none),(zips_mem hok).mpr ⟨m,S,p,hm,hr,hg.symm⟩,e.symm,rfl⟩ hc
theorem kept_ok {A B:List Row} {visits old:List Int} {many:Nat} (R:RingOk many ring 20) (h3:many ≤ 3) (hC:IsC C ring) (hA:∃ a,A = [a]) (hAok:∀ r ∈ A,r.okIn 5) (hv:∀ v ∈ visits,1 ≤ v ∧ v ≤ ring.length) (hvl:visits.length < 100) (h5:old.length = 5) (hs:Small old) (hB:B.length < 100):KeptOk (pairsOf C ring) A ring B visits old where
 nd:=pairsOf_nodup
 len:=by have:=pairsOf_len (C:=C) (ring:=ring); have:=R.tot; (exact nD ‹_› ‹_› (by decide))
 ok:=pairsOf_ok R.ok
 A1:=hA
 Aok:=hAok
 rok:=R.ok
 rlen:=fun S hS=>by
  obtain ⟨m,hm⟩:=List.mem_iff_getElem?.mp hS
  have:=len_of_mem hm; have:=R.tot; (exact nD ‹_› ‹_› (by decide))
 vis:=hv
 vlen:=hvl
 o5:=h5
 osm:=hs
 r3:=by rw [R.len]; exact h3
 Bl:=hB
 grow:=fun S hS p r hr hd=>pairsOf_grow R.ok hC hS hr hd
 none:=fun S hS r hr p h1 h2=>lawPair_prod h1 (ctrsOf_mem.mpr ⟨p,h2,rfl⟩)
end
theorem loop_init {N:St -> Prop} {R:V -> St -> Prop} {t H:List O} {a b c:V} (ha:a.ok = true) (hb:b.ok = true) (hc:c.ok = true) (q:∀ loc,N ⟨loc,t ++ [.inst [("header",a),("blocks",b),("tails",c)]],H⟩) :
  ws m_Loop_init ⟨[.obj false 108 t.length,a,b,c],t ++ [.inst []],H⟩ N R:=by
 unfold m_Loop_init
 refine ws_seq (ws_attrT rfl (of_decide_eq_true rfl) (wp_get rfl ha ⟨rfl,?_⟩))
 refine ws_seq (ws_attrT rfl (of_decide_eq_true rfl) (wp_get rfl hb ⟨rfl,?_⟩))
 refine ws_seq (ws_attrT rfl (of_decide_eq_true rfl) (wp_get rfl hc ⟨rfl,?_⟩))
 exact ws_nil (q _)
theorem frz_last {C:Addr} {fs:List (Str × V)} {loc:List V} {t H:List O}:frzV (.obj false C t.length) ⟨loc,t ++ [.inst fs],H⟩ = some (.inst C fs,⟨loc,t ++ [.dead],H⟩):=by
 have h:(St.sel ⟨loc,t ++ [O.inst fs],H⟩ false)[t.length]? = some (.inst fs):=List.getElem?_concat_length ..
 refine (frz_inst h).trans ?_
 show some (_,St.mk loc ((t ++ [O.inst fs]).set t.length .dead) H) = _
 rw [List.set_append_right _ _ (Nat.le_refl _),Nat.sub_self]
 rfl
theorem wp_loopF {σ:St} {Q:V -> St -> Prop} {ms:List (AM V)} (h:wp (mAll ms) σ fun vs σ1=>Ex3 fun a b c=>And5 (vs = [a,b,c]) (a.ok = true) (b.ok = true) (c.ok = true) (Q (.inst 108 [("header",a),("blocks",b),("tails",c)]) ⟨σ1.loc,σ1.tmp ++ [.dead],σ1.heap⟩)) :
  wp (mNew 108 4 m_Loop_init false ms) σ fun v σ1=>∃ u σ2,frzV v σ1 = some (u,σ2) ∧ Q u σ2:=by
 refine wp_new (wp_mono h fun vs σ1 q9_=>?_); obtain ⟨a,b,c,e,ha,hb,hc,q⟩:=q9_
 subst e
 exact loop_init ha hb hc fun _=>⟨_,_,frz_last,q⟩
theorem ne_opts {σ:St} {X Y:List (Option Int)}:cNe σ (.lst (X.map optV)) (.lst (Y.map optV)) = some (!decide (X = Y)):=by
 show (eqV (.lst (X.map optV)) (.lst (Y.map optV))).map _ = _
 rw [show eqV (V.lst (X.map optV)) (.lst (Y.map optV)) = _ from eqV_emb emb_opt.list (by decide) X Y]; rfl
theorem ne_pairs {σ:St} {X Y:List PI}:cNe σ (.lst (X.map pairV)) (.lst (Y.map pairV)) = some (!decide (X = Y)):=by
 show (eqV (.lst (X.map pairV)) (.lst (Y.map pairV))).map _ = _
 rw [show eqV (V.lst (X.map pairV)) (.lst (Y.map pairV)) = _ from eqV_emb emb_pair.list (by decide) X Y]; rfl
theorem look_is {S:List Row} {H:List O} {t:List O} {Q:V -> St -> Prop} {loc:List V} (hl:S.length < 200) (hi:loc[8]? = some (.lst (S.map stepV))) (q:∀ t',Q (.lst (((List.range S.length).map (growthAt S)).map optV)) ⟨loc,t',H⟩) :
  wp (mCompE (fun _=>none) (mComp [none,none,none,some 8] (mRange [(mLen (mGet 8))]) (tName 1) (pure true) (mCall g_growth_at [(mGet 3),(mGet 1)]))) ⟨loc,t,H⟩ Q:=by
 refine wp_compE (wp_comp (wp_range1 (wp_len (wp_get hi rfl ?_))))
 refine ⟨_,listOf_lst _,by rw [List.length_map]; unfold lid; omega,_,rfl,by omega,by rw [List.length_map]; omega,?_⟩
 rw [List.length_map,show intR 0 ((S.length:Nat):Int).toNat = (List.range' 0 S.length).map fun n:Nat=>V.int n from intR_map S.length 0]
 refine wp_compM (fun n:Nat=>V.int n) (List.range' 0 S.length) (fun pre out σ=>∃ u1,σ = ⟨[.undef,u1,.undef,.lst (S.map stepV)],t,H⟩ ∧ out = (pre.map (growthAt S)).map optV) ⟨.undef,by unfold locIn; simp only [List.map_cons,List.map_nil]; rw [hi]; rfl,rfl⟩ ?_ ?_
 ·rintro pre n post out σ e ⟨u1,rfl,rfl⟩
  have hn:n ∈ List.range' 0 S.length:=by rw [e]; simp
  rw [List.mem_range'_1] at hn
  walk_at "m go"
  refine callX (g_growth_at_is S n S[n] (List.getElem?_eq_getElem (by omega)) hl _) ?_
  exact ⟨_,rfl,by rw [List.map_append,List.map_append]; rfl⟩
 ·rintro out σ ⟨u1,rfl,rfl⟩
  rw [← List.range_eq_range']
  exact ⟨by rw [List.length_map,List.length_map,List.length_range]; unfold lid; omega,wp_outF (q _)⟩
theorem rows_back {σ:St} {m:AM V} {rows:List Row} {Q:V -> St -> Prop} (hl:rows.length < 1000) (h:wp m σ fun v σ1=>v = .lst (rows.map stepV) ∧ Q (rowsV rows) σ1) :
  wp (mCompE (fun _=>none) (mComp [none,none,none] (mItems m) (tName 1) (pure true) (mTup [(mAttr 45 0 "op" (mGet 1)),(mAttr 45 1 "dst" (mGet 1)),(mListC (fun _=>none) (mAttr 45 2 "args" (mGet 1)))]))) σ Q:=by
 refine wp_compE (wp_comp (wp_items (wp_mono h fun v σ1 q9_=>?_))); obtain ⟨e,q⟩:=q9_
 subst e
 refine ⟨_,rfl,wp_compM stepV rows (fun pre out σ=>∃ u1,σ = ⟨[.undef,u1,.undef],σ1.tmp,σ1.heap⟩ ∧ out = pre.map rowV) ⟨_,rfl,rfl⟩ ?_ ?_⟩
 ·rintro pre r post out σ e ⟨u1,rfl,rfl⟩
  have:=args_len r
  walk_at "m go"
  exact ⟨_,rfl,by rw [List.map_append]; rfl⟩
 ·rintro out σ ⟨u1,rfl,rfl⟩
  exact ⟨by rw [List.length_map]; unfold lid; (exact nA ‹_› (by decide)),wp_outF q⟩
noncomputable def blkAt:Nat -> V
 | 0=>.obj true 66 3
 | i + 1=>.obj true 66 (5 + i)
theorem refs_eq (m:Nat):blockRefs m = (List.range (m + 1)).map blkAt:=by
 rw [List.range_succ_eq_map,List.map_cons,List.map_map]; rfl
noncomputable def deadHeap (w:O) (k:Int) (Ss:List (List Row)):List O:=w :: .inst (funcF k) :: .dead :: .inst (blockF 0 (.ref true 4)) :: .dead :: blocksO Ss
theorem later_is {w y:O} {k:Int} {L:List Row} {Ss:List (List Row)} {loc:List V} {t:List O} {Q:V -> St -> Prop} (h5:loc[5]? = some (.obj true 87 1)) (hL:L.length < 1000) (hS:∀ S ∈ Ss,S.length < 1000) (hl:Ss.length < 1000)
  (q:Q (.lst ((L :: Ss).map rowsV)) ⟨loc,t,deadHeap w k Ss ++ [y]⟩) :
  wp (mCompE (fun _=>none) (mComp [none,none] (mItems (mFrz (mAttr 87 4 "blocks" (mGet 5)))) (tName 1) (pure true) (mCompE (fun _=>none) (mComp [none,none,none] (mItems (mFrz (mAttr 66 1 "steps" (mGet 1)))) (tName 1) (pure true) (mTup [(mAttr 45 0 "op" (mGet 1)),(mAttr 45 1 "dst" (mGet 1)),(mListC (fun _=>none) (mAttr 45 2 "args" (mGet 1)))]))))) ⟨loc,t,lawHeap w k L Ss ++ [y]⟩ Q:=by
 refine wp_compE (wp_comp (wp_items (wp_frz (wp_attr (wp_get h5 rfl (ansX (attr_obj (fs:=funcF k) rfl rfl) ?_))))))
 refine ⟨_,_,rfl,_,rfl,?_⟩
 rw [refs_eq]
 refine wp_compM blkAt (List.range (Ss.length + 1)) (fun pre out σ=>∃ u1,σ = ⟨[.undef,u1],t,(if pre.length = 0 then (lawHeap w k L Ss).set 2 .dead else deadHeap w k Ss) ++ [y]⟩ ∧ out = pre.map fun i=>rowsV ((L :: Ss).getD i [])) ⟨_,rfl,rfl⟩ ?_ ?_
 ·rintro pre i post out σ e ⟨u1,rfl,rfl⟩
  have hpre:pre = List.range i:=by
   have h1:(List.range (Ss.length + 1))[pre.length]? = some i:=by rw [e]; simp
   have hi:pre.length < Ss.length + 1:=by have:=congrArg List.length e; simp at this; (exact nM ‹_›)
   rw [List.getElem?_range hi] at h1
   cases h1
   have h2:(List.range (Ss.length + 1)).take pre.length = pre:=by rw [e,List.take_left]
   rw [List.take_range,Nat.min_eq_left (Nat.le_of_lt hi)] at h2
   exact h2.symm
  have hi:i < Ss.length + 1:=List.mem_range.mp (by rw [e]; simp)
  subst hpre
  have hl2:(List.range i ++ [i]).length = i + 1:=by simp
  rw [List.length_range,hl2,if_neg (Nat.succ_ne_zero i),List.map_append]
  refine wu_name (wp_pure ⟨fun _=>?_,fun h=>bT h⟩)
  cases i with
  | zero =>
   refine rows_back hL (wp_frz (wp_attr (wp_got ?_)))
   refine ⟨_,rfl,?_,?_⟩
   ·exact rfl
   refine ansX (attr_obj (fs:=blockF 0 (.ref true 4)) rfl rfl) ?_
   exact ⟨_,_,rfl,rfl,_,rfl,rfl⟩
  | succ i =>
   have hSi:Ss[i]? = some Ss[i]:=List.getElem?_eq_getElem (by exact Nat.le_of_lt_succ ‹_›)
   have hb:(deadHeap w k Ss ++ [y])[5 + i]? = some (.inst (blockF ((i + 1:Nat):Int) (.lst (Ss[i].map stepV)))):=by
    rw [List.getElem?_append_left (by unfold deadHeap blocksO; simp; lia),← lawHeap_blk (w:=w) (k:=k) (L:=L) hSi,Nat.add_comm]; rfl
   refine rows_back (hS _ (List.mem_of_getElem? hSi)) (wp_frz (wp_attr (wp_got ?_)))
   refine ⟨_,rfl,?_,?_⟩
   ·exact rfl
   refine ansX (attr_obj (fs:=blockF ((i + 1:Nat):Int) (.lst (Ss[i].map stepV))) hb rfl) ?_
   refine ⟨_,_,rfl,rfl,_,rfl,?_⟩
   congr 1
   show [_] = [rowsV (Ss.getD i [])]
   rw [List.getD_eq_getElem?_getD,hSi]; rfl
 ·rintro out σ ⟨u1,rfl,rfl⟩
  rw [List.length_range,if_neg (Nat.succ_ne_zero _)]
  have e:(List.range (Ss.length + 1)).map (fun i=>rowsV ((L :: Ss).getD i [])) = (L :: Ss).map rowsV:=by
   apply List.ext_getElem?
   intro i
   rw [List.getElem?_map,List.getElem?_map]
   rcases Nat.lt_or_ge i (Ss.length + 1) with h | h
   ·have hg:(L :: Ss)[i]? = some (L :: Ss)[i]:=List.getElem?_eq_getElem (by simpa using h)
    rw [List.getElem?_range h,hg]
    show some (rowsV ((L :: Ss).getD i [])) = _
    rw [List.getD_eq_getElem?_getD,hg]; rfl
   ·rw [List.getElem?_eq_none (by simpa using h),List.getElem?_eq_none (by simpa using h)]; rfl
  rw [e]
  exact ⟨by rw [List.length_map]; unfold lid; simp; (exact nB ‹_› (by decide)),wp_outF q⟩
noncomputable def und (n:Nat):List V:=List.replicate n .undef
theorem cells_is {ns:List Int} (hn:ns.length < 1000) {t H:List O} {k:Nat} {Q:V -> St -> Prop} (q:Q (.lst ((ns.map (· % 4294967296)).map V.int)) ⟨.lst (ns.map V.int) :: und k,t,H⟩) :
  wp (mCompE (fun _=>none) (mComp [none,none,none,none] (mItems (mGet 0)) (tName 1) (pure true) (mOp opMod (mInt (mGet 1)) (pure (.int 4294967296))))) ⟨.lst (ns.map V.int) :: und k,t,H⟩ Q:=by
 refine wp_compE (wp_comp (wp_items (wp_get rfl rfl ⟨_,rfl,?_⟩)))
 refine wp_compM V.int ns (fun pre out σ=>∃ u1,σ = ⟨[.undef,u1,.undef,.undef],t,H⟩ ∧ out = (pre.map (· % 4294967296)).map V.int) ⟨_,rfl,rfl⟩ ?_ ?_
 ·rintro pre n post out σ e ⟨u1,rfl,rfl⟩
  walk_at "m go"
  exact ⟨_,rfl,by rw [List.map_append,List.map_append]; rfl⟩
 ·rintro out σ ⟨u1,rfl,rfl⟩
  exact ⟨by rw [List.length_map,List.length_map]; unfold lid; (exact nA ‹_› (by decide)),wp_outF q⟩
theorem ints_id (l:List Int):intsOf (l.map V.int) = some l:=(intsOf_map (fun x=>x) l).trans (by rw [List.map_id'])
noncomputable def Drawn (size:Int) (n:Nat) (out:List V):Prop:=∃ xs:List Int,And3 (out = xs.map V.int) (xs.length = n) (∀ x ∈ xs,0 ≤ x ∧ x < size)
theorem Drawn.add {size:Int} {n:Nat} {out:List V} (h:Drawn size n out) {x:Int} (h0:0 ≤ x) (h1:x < size):Drawn size (n + 1) (out ++ [.int x]):=by
 obtain ⟨xs,rfl,hl,hx⟩:=h
 refine ⟨xs ++ [x],by rw [List.map_append]; rfl,by rw [List.length_append,hl]; rfl,fun y hy=>?_⟩
 rcases List.mem_append.mp hy with h | h
 ·exact hx y h
 ·obtain rfl:y = x:=by simpa using h
  exact ⟨h0,h1⟩
theorem olds_is {o:O} {b:Nat} (hw:IsWell o b) (hb:b < 900000) {loc t H:List _} {L:List V -> St -> Prop} (h2:loc[2]? = some (.ref true 0))
  (q:∀ out o',Drawn 4294967296 4 out -> IsWell o' (b + 4) -> L out ⟨loc,t,o' :: H⟩) :
  wp (mComp [none,none,none,none,some 2] (mRange [(pure (.int 4))]) (tName 1) (pure true) (mCall g_law_draw [(mGet 4),(pure (.int 4294967296))])) ⟨loc,t,o :: H⟩ L:=by
 refine wp_comp (wp_range1 (wp_pure ⟨4,rfl,by decide,by decide,?_⟩))
 rw [show intR 0 (4:Int).toNat = (List.range' 0 4).map fun n:Nat=>V.int n from intR_map 4 0]
 refine wp_compM (fun n:Nat=>V.int n) (List.range' 0 4) (fun pre out σ=>Ex2 fun u1 o'=>And3 (Drawn 4294967296 pre.length out) (IsWell o' (b + pre.length)) (σ = ⟨[.undef,u1,.undef,.undef,.ref true 0],t,o' :: H⟩)) ⟨.undef,o,⟨[],rfl,rfl,fun _ h=>by cases h⟩,hw,by unfold locIn; simp only [List.map_cons,List.map_nil]; rw [h2]; rfl⟩ ?_ ?_
 ·intro pre n post out σ e h0_
  obtain ⟨u1,o',hd,hw',rfl⟩:=h0_
  have hl:=congrArg List.length e
  simp at hl
  refine draw_isE (size:=4294967296) hw' (by lia) (by decide) H fun x o2 e2 w2 h3 h4=>?_
  walk_at "m go"
  refine callX e2 ?_
  have hl2:(pre ++ [n]).length = pre.length + 1:=by simp
  rw [hl2]
  exact ⟨_,_,hd.add h3 h4,w2,rfl⟩
 ·intro out σ h0_
  obtain ⟨u1,o',hd,hw',rfl⟩:=h0_
  have hl:(List.range' 0 4).length = 4:=rfl
  rw [hl] at hd hw'
  refine ⟨?_,q _ _ hd hw'⟩
  obtain ⟨xs,rfl,hl,_⟩:=hd
  rw [List.length_map,hl]; decide
theorem visits_is {o:O} {b many:Nat} {more:Int} (hw:IsWell o b) (hb:b < 900000) (hm:1 ≤ many) (h3:many ≤ 3) (hmo:0 ≤ more) (hmo4:more < 4) {loc t H:List _} {Q:V -> St -> Prop} (l2:loc[2]? = some (.ref true 0)) (l3:loc[3]? = some (.int many)) (l10:loc[10]? = some (.int more))
  (q:∀ (vis:List Int) o',vis.length < 100 -> (∀ v ∈ vis,1 ≤ v ∧ v ≤ many) -> IsWell o' (b + 4) -> Q (.lst (vis.map V.int)) ⟨loc,t,o' :: H⟩) :
  wp (mAddL (fun _=>none) (mListR (pure (.int 1)) (mOp opAdd (mGet 3) (pure (.int 1)))) (mCompE (fun _=>none) (mComp [none,none,none,some 3,some 2] (mRange [(mGet 10)]) (tName 1) (pure true) (mOp opAdd (pure (.int 1)) (mCall g_law_draw [(mGet 4),(mGet 3)]))))) ⟨loc,t,o :: H⟩ Q:=by
 refine wp_addL (wp_listR (wp_pure (wp_op (wp_get l3 rfl (wp_pure (ansX (op_add _ _) ?_))))))
 refine ⟨1,many + 1,rfl,rfl,by decide,by decide,by lia,by lia,?_⟩
 refine wp_compE (wp_comp (wp_range1 (wp_get l10 rfl ⟨_,rfl,by lia,by exact wA ‹_› (by decide),?_⟩)))
 rw [show intR 0 more.toNat = (List.range' 0 more.toNat).map fun n:Nat=>V.int n from intR_map _ 0]
 refine wp_compM (fun n:Nat=>V.int n) (List.range' 0 more.toNat) (fun pre out σ=>Ex3 fun (u1:V) (o':O) (xs:List Int)=>And5 (out = xs.map V.int) (xs.length = pre.length) (∀ x:Int,x ∈ xs -> 1 ≤ x ∧ x ≤ many) (IsWell o' (b + pre.length)) (σ = ⟨[.undef,u1,.undef,.int many,.ref true 0],t,o' :: H⟩)) ⟨.undef,o,[],rfl,rfl,(fun _ h=>by cases h),hw,by unfold locIn; simp only [List.map_cons,List.map_nil]; rw [l2,l3]; rfl⟩ ?_ ?_
 ·rintro pre n post out σ e ⟨u1,o',xs,rfl,hxl,hx,hw',rfl⟩
  have hl:=congrArg List.length e
  simp at hl
  refine draw_isE (size:=(many:Int)) hw' (by lia) (by exact Int.ofNat_lt.mpr ‹_›) H fun x o2 e2 w2 h3 h4=>?_
  walk_at "m go"
  refine callX e2 ?_
  walk_at "m go"
  have hl2:(pre ++ [n]).length = pre.length + 1:=by simp
  rw [hl2]
  refine ⟨_,_,xs ++ [1 + x],by rw [List.map_append]; rfl,by rw [List.length_append,hxl]; rfl,fun y hy=>?_,w2,rfl⟩
  rcases List.mem_append.mp hy with h | h
  ·exact hx y h
  ·obtain rfl:y = 1 + x:=by simpa using h
   lia
 ·rintro out σ ⟨u1,o',xs,rfl,hxl,hx,hw',rfl⟩
  have hl:(List.range' 0 more.toNat).length = more.toNat:=by simp
  rw [hl] at hxl hw'
  have e1:intR 1 ((many:Int) + 1 - 1).toNat = ((List.range' 1 many).map fun n:Nat=>(n:Int)).map V.int:=by
   rw [show ((many:Int) + 1 - 1).toNat = many by lia,show (1:Int) = ((1:Nat):Int) from rfl,intR_map,List.map_map]; rfl
  refine ⟨by rw [List.length_map,hxl]; unfold lid; lia,wp_outF ⟨_,_,rfl,rfl,?_,?_⟩⟩
  ·rw [e1]; simp only [List.length_map,List.length_range',hxl]; unfold lid; lia
  ·rw [e1,← List.map_append]
   refine wp_outF (q _ _ ?_ ?_ (hw'.up (by lia)))
   ·simp only [List.length_append,List.length_map,List.length_range',hxl]; lia
   ·intro v hv
    rcases List.mem_append.mp hv with h | h
    ·obtain ⟨n,hn,rfl⟩:=List.mem_map.mp h
     rw [List.mem_range'_1] at hn
     lia
    ·exact hx v h
theorem grownAll_is {ps:List PI} {ring:List (List Row)} {B:List Row}:grownAll ps ring.length (ring ++ [B]) = ring.map (grown (regOf ps) ps) ++ [B]:=by
 unfold grownAll
 apply List.ext_getElem?
 intro i
 rw [List.getElem?_map,List.getElem?_zipIdx,Nat.zero_add]
 rcases Nat.lt_or_ge i ring.length with h | h
 ·rw [List.getElem?_append_left h,List.getElem?_append_left (by rw [List.length_map]; exact h),List.getElem?_map,List.getElem?_eq_getElem h]
  exact congrArg some (if_pos h)
 ·rw [List.getElem?_append_right h,List.getElem?_append_right (by rw [List.length_map]; exact h),List.length_map]
  cases e:i - ring.length with
  | zero=>exact congrArg some (if_neg (by show ¬ i < _; (exact Nat.not_lt_of_le ‹_›)))
  | succ n=>rfl
theorem law_is (ns:List Int) (hn:ns.length ≤ 63):∃ v H',g_law [.lst (ns.map V.int)] [] = some (v,H') ∧ v = .bool true:=by
 refine run_of ?_
 unfold m_law
 have hcl:(ns.map (· % 4294967296)).length = ns.length:=List.length_map _
 refine ws_step (fun σ=>∃ o,IsWell o 0 ∧ σ = ⟨[.lst (ns.map V.int),.lst ((ns.map (· % 4294967296)).map V.int)] ++ und 27,[],[]⟩) ?_ ?_
 ·refine ws_set (cells_is (k:=28) (by exact nB ‹_› (by decide)) ?_)
  exact ⟨wellO [] 0 0,⟨[],0,0,rfl,by decide,Nat.le_refl _⟩,rfl⟩
 rintro σ ⟨_,_,rfl⟩
 refine ws_step (fun σ=>∃ o,IsWell o 0 ∧ σ = ⟨[.lst (ns.map V.int),.lst ((ns.map (· % 4294967296)).map V.int),.ref true 0] ++ und 26,[],[o]⟩) ?_ ?_
 ·walk_at "m go"
  refine wp_sum ?_
  walk_at "m go"
  refine ⟨_,ns.map (· % 4294967296),rfl,ints_id _,?_⟩
  walk_at "m go"
  exact ⟨_,⟨ns.map (· % 4294967296),0,_,rfl,by rw [hcl]; (exact nB ‹_› (by decide)),Nat.le_refl _⟩,rfl⟩
 rintro σ ⟨o,wo,rfl⟩
 generalize V.lst (ns.map V.int) = c0
 generalize V.lst ((ns.map (· % 4294967296)).map V.int) = c1
 clear hcl hn
 refine ws_step (fun σ=>Ex2 fun (many:Nat) (o:O)=>And4 (1 ≤ many) (many ≤ 3) (IsWell o 1) (σ = ⟨[c0,c1,.ref true 0,.int many] ++ und 25,[],[o]⟩)) ?_ ?_
 ·refine draw_isE (size:=3) wo (by decide) (by decide) [] fun x o2 e2 w2 h0 h1=>?_
  walk_at "m go"
  refine callX e2 ?_
  walk_at "m go"
  obtain ⟨n,rfl⟩:∃ n:Nat,x = n:=⟨x.toNat,by lia⟩
  rw [show (1:Int) + (n:Int) = ((1 + n:Nat):Int) by (rfl)]
  exact ⟨1 + n,o2,by exact Nat.le_add_right _ _,by lia,w2,rfl⟩
 rintro σ ⟨many,o1,hm,hm3,w1,rfl⟩
 refine ws_step (fun σ=>Ex4 fun n1 n2 ring o=>And8 (0 ≤ n1) (n1 < 4294967296) (0 ≤ n2) (n2 < 4294967296) (RingOk many ring 20) (RingFirst ring) (IsWell o 101) (σ = ⟨[c0,c1,.ref true 0,.int many,.lst ((partsOf n1 n2 ring).map rowsV)] ++ und 24,[],[o]⟩)) ?_ ?_
 ·obtain ⟨v,H',e2,o',n1,n2,ring,rfl,w2,rfl,h1,h2,h3,h4,R,F⟩:=parts_is w1 (by decide) hm hm3 []
  walk_at "m go"
  refine callX e2 ?_
  exact ⟨n1,n2,ring,o',h1,h2,h3,h4,R,F,w2,rfl⟩
 rintro σ ⟨n1,n2,ring,o2,h1,h2,h3,h4,R,F,w2,rfl⟩
 have hrl:=R.len
 have hAok:∀ r ∈ [Row.bin .sub 0 (.reg 1) (.num n1)],r.okIn 5:=fun r hr=>by
  obtain rfl:r = _:=by simpa using hr
  exact ⟨by decide,⟨by decide,by decide⟩,h1,h2⟩
 obtain ⟨A,hA⟩:∃ A,A = [Row.bin .sub 0 (.reg 1) (.num n1)]:=⟨_,rfl⟩
 obtain ⟨B,hB⟩:∃ B,B = [Row.bin .mul 4 (.reg 0) (.num n1),.un .const 0 (.num n2)]:=⟨_,rfl⟩
 have hpo:partsOf n1 n2 ring = A :: (ring ++ [B]):=by rw [hA,hB]; rfl
 have hA1:∃ a,A = [a]:=⟨_,hA⟩
 have hAl:A.length = 1:=by rw [hA]; rfl
 have hBl:B.length = 2:=by rw [hB]; rfl
 rw [← hA] at hAok
 rw [hpo]
 clear hpo hA hB
 have hSl:∀ S ∈ ring,S.length ≤ 20:=fun S hS=>by
  obtain ⟨m,hm⟩:=List.mem_iff_getElem?.mp hS
  have:=len_of_mem hm; have:=R.tot; (exact Nat.le_trans ‹_› ‹_›)
 have hS20:∀ S ∈ ring ++ [B],S.length ≤ 20:=fun S hS=>by
  rcases List.mem_append.mp hS with h | h
  ·exact hSl S h
  ·obtain rfl:S = B:=by simpa using h
   (exact nE2 ‹_› (by decide))
 refine ws_step (fun σ=>∃ t,σ = ⟨[c0,c1,.ref true 0,.int many,.lst ((A :: (ring ++ [B])).map rowsV),.obj true 87 1,loopV many] ++ und 22,t,lawHeap o2 5 A (ring ++ [B])⟩) ?_ ?_
 ·walk_at "m go"
  refine callX (g_law_made_is (by exact nE ‹_› (by decide)) (by simp; lia) fun S hS=>by have:=hS20 S hS; (exact nB ‹_› (by decide))) ?_
  walk_at "m go"
  refine wp_loopF ?_
  walk_at "m go"
  refine wp_setR ?_
  walk_at "m go"
  refine ⟨many + 1,rfl,rfl,by lia,by lia,?_⟩
  rw [show ((many:Int) + 1 - 1).toNat = many by lia]
  walk_at "m go"
  refine ⟨_,_,_,rfl,rfl,rfl,rfl,?_⟩
  walk_at "m go"
  exact ⟨_,rfl⟩
 rintro σ ⟨t,rfl⟩
 have hlk:(ring ++ [B]).length = many + 1:=by rw [List.length_append,hrl]; rfl
 refine ws_step (fun σ=>Ex3 fun v7 v8 t=>σ = ⟨[c0,c1,.ref true 0,.int many,.lst ((A :: (ring ++ [B])).map rowsV),.obj true 87 1,loopV many,v7,v8] ++ und 20,t,lawHeap o2 5 A (ring ++ [B])⟩) ?_ ?_
 ·walk_at "m go"
  refine ⟨1,many + 1,rfl,rfl,by decide,by decide,by lia,by lia,?_⟩
  rw [show ((many:Int) + 1 - 1).toNat = many by lia,show (1:Int) = ((1:Nat):Int) from rfl,intR_map]
  refine ws_forI (fun n:Nat=>V.int n) (List.range' 1 many) (fun pre σ=>Ex3 fun v7 v8 t=>σ = ⟨[c0,c1,.ref true 0,.int many,.lst ((A :: (ring ++ [B])).map rowsV),.obj true 87 1,loopV many,v7,v8] ++ und 20,t,lawHeap o2 5 A (ring ++ [B])⟩) ⟨_,_,_,rfl⟩ ?_ ?_
  ·rintro pre n post σ e ⟨v7,v8,t,rfl⟩
   have hn:n ∈ List.range' 1 many:=by rw [e]; simp
   rw [List.mem_range'_1] at hn
   obtain ⟨m,rfl⟩:∃ m,n = m + 1:=⟨n - 1,by exact tG ‹_›⟩
   have hS:ring[m]? = some ring[m]:=List.getElem?_eq_getElem (by lia)
   have hS':(ring ++ [B])[m]? = some ring[m]:=by rw [List.getElem?_append_left (by lia)]; exact hS
   have hp:getL ((A :: (ring ++ [B])).map rowsV) ((m + 1:Nat):Int) = some (rowsV ring[m]):=parts_at (by lia) (by lia) (by exact nG ‹_› ‹_› (by decide)) (by rw [show ((m + 1:Nat):Int).toNat - 1 = m by (rfl)]; exact hS)
   have hok:=R.ok _ (List.mem_of_getElem? hS)
   have hl20:=hSl _ (List.mem_of_getElem? hS)
   generalize ring[m] = S at *
   walk_at "m go"
   refine wp_stepsR (w:=o2) (k:=5) (L:=A) (by exact rfl) (by exact rfl) (by exact rfl) hS' (by lia) ?_
   refine ws_seq (ws_if (wp_tcmp (look_is (S:=S) (by exact nB ‹_› (by decide)) (by exact rfl) fun t'=>?_)))
   walk_at "m go"
   refine callX (g_law_growths_is S (by exact nB ‹_› (by decide)) _) ?_
   refine ansX ne_opts ?_
   rw [lawGrowths_is hok,decide_eq_true rfl]
   refine iteF rfl ?_
   walk_at "m go"
   exact ⟨_,_,_,rfl⟩
  ·rintro σ ⟨v7,v8,t,rfl⟩
   exact ⟨_,_,_,rfl⟩
 rintro σ ⟨v7,v8,t,rfl⟩
 have hfl:=trips_rows (ring:=ring) (B:=B) many (by lia)
 rw [← hrl,List.take_length] at hfl
 have htl:(tripsOf (ring ++ [B]) (List.range' 1 ring.length)).length = sumLen ring:=by
  rw [← flatten_len,← hfl,List.length_map]
 have htot:=R.tot
 obtain ⟨n0,S0,rest,hF⟩:=F
 have hF0:ring[0]? = some (.bin .mul 4 (.reg 0) (.num n0) :: S0):=by rw [hF]; rfl
 have ht0:(⟨1,0,.bin .mul 4 (.reg 0) (.num n0)⟩:Trip) ∈ tripsOf (ring ++ [B]) (List.range' 1 ring.length):=(trips_mem (Nat.le_refl _)).mpr ⟨0,_,by lia,hF0,rfl,rfl⟩
 have hg0:(growOf (ring ++ [B]) ⟨1,0,.bin .mul 4 (.reg 0) (.num n0)⟩).isNone = true:=by
  rw [grow_trip hF0 rfl]; rfl
 have hmany:loopV many = loopV ring.length:=by rw [hrl]
 refine ws_step (fun σ=>Ex2 fun ks t=>(∀ k,k ∈ ks ↔ IsCtr (ring ++ [B]) (tripsOf (ring ++ [B]) (List.range' 1 ring.length)) k) ∧ σ = ⟨[c0,c1,.ref true 0,.int many,.lst ((A :: (ring ++ [B])).map rowsV),.obj true 87 1,loopV many,v7,v8,.lst ((sortP (nubO ((mulsOf (tripsOf (ring ++ [B]) (List.range' 1 ring.length))).map fun t=>productOf t.r ks))).map pairV)] ++ und 19,t,lawHeap o2 5 A (ring ++ [B])⟩) ?_ ?_
 ·obtain ⟨v,H',e,rfl,ks,hks,rfl⟩:=g_products_in_is (w:=o2) (k:=5) (L:=A) (Ss:=ring ++ [B]) (tripsOf (ring ++ [B]) (List.range' 1 ring.length)) (by exact nG ‹_› ‹_› (by decide)) (fun t ht=>by
    obtain ⟨m,S,hm',hS,hn,hr⟩:=(trips_mem (Nat.le_refl _)).mp ht
    have:=hSl S (List.mem_of_getElem? hS)
    exact ⟨m,S,hn,by lia,by rw [List.getElem?_append_left (by (assumption))]; exact hS,hr,by exact nB ‹_› (by decide)⟩) (fun t ht=>by
    obtain ⟨m,S,hm',hS,hn,hr⟩:=(trips_mem (Nat.le_refl _)).mp ht
    have:=R.ok S (List.mem_of_getElem? hS) t.r (List.mem_of_getElem? hr)
    generalize t.r = r at this
    cases r <;> exact this.1) ⟨_,ht0,(by show (0:Int) ≤ 4; decide),hg0⟩ ⟨_,ht0,rfl⟩
  have e1:=g_steps_in_is (w:=o2) (k:=5) (L:=A) (Ss:=ring ++ [B]) (many:=ring.length) (by lia) (by lia) (by exact nG ‹_› ‹_› (by decide))
  rw [hmany]
  walk_at "m go"
  refine callX e1 ?_
  walk_at "m go"
  refine ⟨by repeat' first | exact rfl | exact cl_trip _ | apply clL_cons,callX e ?_⟩
  exact ⟨ks,_,hks,rfl⟩
 rintro σ ⟨ks,t,hks,rfl⟩
 refine ws_step (fun σ=>Ex2 fun C t=>IsC C ring ∧ σ = ⟨[c0,c1,.ref true 0,.int many,.lst ((A :: (ring ++ [B])).map rowsV),.obj true 87 1,loopV many,v7,v8,.lst ((pairsOf C ring).map pairV)] ++ und 19,t,lawHeap o2 5 A (ring ++ [B])⟩) ?_ ?_
 ·obtain ⟨v,H',e,rfl,C,hC,rfl⟩:=g_law_pairs_is ring (by exact nB ‹_› (by decide)) (lawHeap o2 5 A (ring ++ [B]))
  have hsl:sliceV (some 1) (some (-1)) ((A :: (ring ++ [B])).map rowsV) = ring.map rowsV:=by
   rw [List.map_cons,List.map_append]
   exact slice_mid _ (rowsV B) _ (by rw [List.length_map]; (exact nG ‹_› ‹_› (by decide)))
  have hll:((A :: (ring ++ [B])).map rowsV).length < lid:=by
   rw [List.length_map,List.length_cons,hlk]; unfold lid; lia
  rw [pairs_is R.ok hC hks]
  walk_at "m go"
  rw [hsl]
  refine ⟨by repeat' first | exact rfl | exact cl_rows _ | apply clL_cons,callX e ?_⟩
  refine ansX (ne_pairs (X:=pairsOf C ring) (Y:=pairsOf C ring)) ?_
  rw [decide_eq_true rfl]
  refine iteF rfl ?_
  walk_at "m go"
  exact ⟨C,_,hC,rfl⟩
 rintro σ ⟨C,t,hC,rfl⟩
 have kok:∀ (visits old:List Int),(∀ v ∈ visits,1 ≤ v ∧ v ≤ ring.length) -> visits.length < 100 -> old.length = 5 -> Small old -> KeptOk (pairsOf C ring) A ring B visits old:=fun visits old a b c d=>kept_ok R hm3 hC hA1 hAok a b c d (by exact nE ‹_› (by decide))
 have hpl:(pairsOf C ring).length ≤ 20:=Nat.le_trans pairsOf_len htot
 have hps:=pairsOf_ok (C:=C) R.ok
 have hgr:∀ (m:Nat) (S:List Row) (p:Nat) (r:Row),m < many -> (ring ++ [B])[m]? = some S -> S[p]? = some r -> r.dst ∈ ctrsOf (pairsOf C ring) -> (growthAt S p).isSome = true:=fun m S p r hm' hS hr hd=>by
  rw [List.getElem?_append_left (by lia)] at hS
  exact pairsOf_grow R.ok hC (List.mem_of_getElem? hS) hr hd
 have hnd:=pairsOf_nodup (C:=C) (ring:=ring)
 generalize pairsOf C ring = ps at kok hpl hps hgr hnd
 have hga:grownAll ps many (ring ++ [B]) = ring.map (grown (regOf ps) ps) ++ [B]:=by
  rw [← hrl]; exact grownAll_is
 refine ws_step (fun σ=>∃ t,σ = ⟨[c0,c1,.ref true 0,.int many,.lst ((A :: (ring ++ [B])).map rowsV),.obj true 87 1,loopV many,v7,v8,.lst (ps.map pairV)] ++ und 19,t,lawHeap o2 (5 + (ps.length:Nat)) (A ++ ps.map (mulRow ps)) (ring.map (grown (regOf ps) ps) ++ [B])⟩) ?_ ?_
 ·have e:=g_multiply_ahead_is (w:=o2) (L:=A) (Ss:=ring ++ [B]) (many:=many) ps hnd hm3 (by exact nO ‹_›) (by exact nB ‹_› (by decide)) (fun p hp=>⟨(hps p hp).2.2.1,(hps p hp).2.2.2⟩) (by exact nE ‹_› (by decide)) (fun S hS=>by have:=hS20 S hS; (exact nB ‹_› (by decide))) hgr
  rw [hga] at e
  walk_at "m go"
  refine wp_attr (wp_get (by exact rfl) rfl ?_)
  refine ansX (attr_obj (fs:=funcF 5) rfl rfl) ?_
  walk_at "m go"
  refine ansX (idx_ref (vs:=blockRefs (ring ++ [B]).length) (k:=0) rfl (by decide) rfl) ?_
  walk_at "m go"
  exact ⟨_,_,e,rfl,_,rfl⟩
 rintro σ ⟨t,rfl⟩
 refine ws_step (fun σ=>Ex3 fun more o t=>And4 (0 ≤ more) (more < 4) (IsWell o 102) (σ = ⟨[c0,c1,.ref true 0,.int many,.lst ((A :: (ring ++ [B])).map rowsV),.obj true 87 1,loopV many,v7,v8,.lst (ps.map pairV),.int more] ++ und 18,t,lawHeap o (5 + (ps.length:Nat)) (A ++ ps.map (mulRow ps)) (ring.map (grown (regOf ps) ps) ++ [B])⟩)) ?_ ?_
 ·refine draw_isE (size:=4) w2 (by decide) (by decide) (lawHeap o2 (5 + (ps.length:Nat)) (A ++ ps.map (mulRow ps)) (ring.map (grown (regOf ps) ps) ++ [B])).tail fun x o3 e3 w3 h5 h6=>?_
  walk_at "m go"
  refine callX e3 ?_
  exact ⟨x,o3,_,h5,h6,w3,rfl⟩
 rintro σ ⟨more,o3,t,h5,h6,w3,rfl⟩
 refine ws_step (fun σ=>Ex3 fun (vis:List Int) (o:O) (t:List O)=>And4 (vis.length < 100) (∀ v:Int,v ∈ vis -> 1 ≤ v ∧ v ≤ many) (IsWell o 106) (σ = ⟨[c0,c1,.ref true 0,.int many,.lst ((A :: (ring ++ [B])).map rowsV),.obj true 87 1,loopV many,v7,v8,.lst (ps.map pairV),.int more,.lst (vis.map V.int)] ++ und 17,t,lawHeap o (5 + (ps.length:Nat)) (A ++ ps.map (mulRow ps)) (ring.map (grown (regOf ps) ps) ++ [B])⟩)) ?_ ?_
 ·refine ws_set (visits_is w3 (by decide) hm hm3 h5 h6 (by exact rfl) (by exact rfl) (by exact rfl) fun vis o' a b c=>?_)
  exact ⟨vis,o',_,a,b,c,rfl⟩
 rintro σ ⟨vis,o4,t,hv1,hv2,w4,rfl⟩
 refine ws_step (fun σ=>Ex3 fun (old:List Int) (o:O) (t:List O)=>And3 (old.length = 5) (Small old) (σ = ⟨[c0,c1,.ref true 0,.int many,.lst ((A :: (ring ++ [B])).map rowsV),.obj true 87 1,loopV many,v7,v8,.lst (ps.map pairV),.int more,.lst (vis.map V.int),.ref true (lawHeap o (5 + (ps.length:Nat)) (A ++ ps.map (mulRow ps)) (ring.map (grown (regOf ps) ps) ++ [B])).length] ++ und 16,t,lawHeap o (5 + (ps.length:Nat)) (A ++ ps.map (mulRow ps)) (ring.map (grown (regOf ps) ps) ++ [B]) ++ [.list (old.map V.int)]⟩)) ?_ ?_
 ·refine ws_set (wp_addL (wp_compE (olds_is w4 (by decide) (by exact rfl) fun out o' hd hw=>?_)))
  obtain ⟨xs,rfl,hl,hx⟩:=hd
  have e5:xs.map V.int ++ [V.int 0] = (xs ++ [0]).map V.int:=by rw [List.map_append]; rfl
  refine wp_outF ?_
  walk_at "m go"
  rw [e5]
  refine wp_outT (cl_int _) ⟨xs ++ [0],o',_,by rw [List.length_append,hl]; rfl,fun y hy=>?_,rfl⟩
  rcases List.mem_append.mp hy with h | h
  ·exact hx y h
  ·obtain rfl:y = 0:=by simpa using h
   decide
 rintro σ ⟨old,o5,t,ho5,hos,rfl⟩
 have hlater:(A ++ ps.map (mulRow ps)) :: (ring.map (grown (regOf ps) ps) ++ [B]) = laterOf ps A ring B:=rfl
 have hgl:∀ S ∈ ring.map (grown (regOf ps) ps) ++ [B],S.length < 1000:=fun S hS=>by
  rcases List.mem_append.mp hS with h | h
  ·obtain ⟨S',hS',rfl⟩:=List.mem_map.mp h
   have h1:=row_len (ps:=ps) (S:=S')
   have h2:=hSl S' hS'
   have h3:S'.length * (ps.length + 1) ≤ 20 * 21:=Nat.mul_le_mul h2 (by exact Nat.lt_succ_of_le ‹_›)
   (exact nD ‹_› ‹_› (by decide))
  ·obtain rfl:S = B:=by simpa using h
   (exact nE ‹_› (by decide))
 refine ws_step (fun σ=>∃ t,σ = ⟨[c0,c1,.ref true 0,.int many,.lst ((A :: (ring ++ [B])).map rowsV),.obj true 87 1,loopV many,v7,v8,.lst (ps.map pairV),.int more,.lst (vis.map V.int),.ref true (lawHeap o5 (5 + (ps.length:Nat)) (A ++ ps.map (mulRow ps)) (ring.map (grown (regOf ps) ps) ++ [B])).length,.lst ((laterOf ps A ring B).map rowsV)] ++ und 15,t,deadHeap o5 (5 + (ps.length:Nat)) (ring.map (grown (regOf ps) ps) ++ [B]) ++ [.list (old.map V.int)]⟩) ?_ ?_
 ·refine ws_set (later_is (by exact rfl) (by rw [List.length_append,List.length_map]; lia) hgl (by rw [List.length_append,List.length_map,List.length_singleton]; lia) ?_)
  rw [hlater]
  exact ⟨_,rfl⟩
 rintro σ ⟨t,rfl⟩
 have hK:=kok vis old (fun v hv=>by have:=hv2 v hv; lia) hv1 ho5 hos
 obtain ⟨v,H',e,rfl⟩:=is_kept (H:=deadHeap o5 (5 + (ps.length:Nat)) (ring.map (grown (regOf ps) ps) ++ [B])) hK
 have hdl:(lawHeap o5 (5 + (ps.length:Nat)) (A ++ ps.map (mulRow ps)) (ring.map (grown (regOf ps) ps) ++ [B])).length = (deadHeap o5 (5 + (ps.length:Nat)) (ring.map (grown (regOf ps) ps) ++ [B])).length:=rfl
 rw [hdl]
 walk_at "m go"
 exact callX e ⟨rfl,rfl⟩
noncomputable abbrev cxOf (w:World) (s:Shared) (hb:Heap) (mg mb:Str -> Option Value):Cx:={ prog:=PySem.Challenge.rw_sa0172_01.row.prog,w:=w,s₀:=s,hb:=hb,fr:=frK w.params,mg:=mg,mb:=mb }
noncomputable def noLst (K:Frag):Bool:=K.all fun p=>!(p.2.cls == .type "list")
set_option tactic.hygienic true in
theorem noLst_of {K:Frag} (h:noLst K = true) {a:Addr} {o:Obj} (e:K.lookup a = some o):o.cls ≠ .type "list":=by
 have:(a,o) ∈ K:=by
  clear h
  induction K with
  | nil=>cases e
  | cons p r ih =>
   obtain ⟨b,x⟩:=p
   simp only [List.lookup] at e
   split at e
   ·rename_i q; cases e; rw [beq_iff_eq.mp q]; exact .head _
   ·exact .tail _ (ih e)
 have:=List.all_eq_true.mp h _ this
 intro z
 dsimp only at this
 rw [z] at this
 exact absurd this (by decide)
theorem noLst_hd (P:Params):noLst (frK P) = true:=by kernel_rfl
theorem Ns_of {h h':Heap} {a:Addr} {m:Str -> Option Value} (x:h.Ns a m) (e:h'.get? a = h.get? a):h'.Ns a m:=(by obtain ⟨o,es,ep,ho,r⟩:=x; exact ⟨o,es,ep,e.trans ho,r⟩)
theorem Ns_ne {h:Heap} {a b:Addr} {m:Str -> Option Value} {vs:Array Value} (x:h.Ns a m) (e:∃ o n,h.get? b = some o ∧ o.data = .seq vs n):a ≠ b:=by
 rintro rfl
 obtain ⟨o,es,ep,ho,hd,_⟩:=x
 obtain ⟨o',n,ho',hd'⟩:=e
 rw [ho] at ho'; cases ho'
 rw [hd] at hd'; cases hd'
theorem vall_ints {c:Cx} {F:Heap} {R:Adrs} {P:Params} {h:Heap} (ns:List Int):∀ {vs:List Value},WellAll P h vs (ofPys (ns.map PyData.int)) -> VAll c F R vs (ns.map V.int):=by
 induction ns with
 | nil=>intro _ w; cases w; exact .nil
 | cons n ns ih =>
  intro _ w
  cases w with
  | cons a b =>
   cases a
   exact .cons (.int _ _) (ih b)
noncomputable def IsLst (P:Params) (h:Heap) (v:Value) (d:WData):Prop:=WData.casesOn (motive_1:=fun _=>Prop) d True (fun _=>True) (fun _=>True) (fun _=>True) (fun xs=>∃ vs,(∀ a,v = .ref a -> h.get? a = some (seqO "list" vs 0)) ∧ WellAll P h vs xs) (fun _=>True) (fun _=>True) (fun _=>True) (fun _=>True) (fun _=>True) (fun _=>True) (fun _=>True) fun _ _=>True
theorem well_list {P:Params} {h:Heap} {v:Value} {d:WData} (w:Well P h v d):IsLst P h v d:=by
 cases w with
 | list h1 h2=>exact ⟨_,fun a e=>by cases e; exact h1,h2⟩
 | _=>exact True.intro
set_option tactic.hygienic true in
theorem join {g:List V -> List O -> Option (V × List O)} (fs:∀ c,Lnk c -> FSpec c 7 257 1 g) (plain:∀ ns:List Int,ns.length ≤ 63 -> ∃ H',g [.lst (ns.map V.int)] [] = some (.bool true,H')):PySem.Challenge.rw_sa0172_01.Holds:=by
 refine head_is ?_
 intro w s₀ s₁ mg mb G Y fa o pm cd doc dV kV ho hd hcd hD hmg hg args vals as hpre hlay hrd hwl hlo
 obtain ⟨KX,KC⟩:=Y
 have hfa:fa = 257:=by
  have h1:mg "law" = some (.ref fa):=hmg
  have h2:=mg_of KX G.T.g (show nsIn (frK w.params) mainGlobals "law" = some (some (.ref 257)) by kernel_rfl)
  rw [h2] at h1; cases h1; rfl
 subst hfa
 refine Ground.open G ?_
 intro T B D TE TW
 have TT:=T
 clear ho hd hcd hD hmg D TE TW B
 wrow_args hpre hlay hrd hwl hlo
 rename_i ns _ _ _ _ _ _ _ a cvs _ hL _ w1 _ _ _ hcond _
 have hn:ns.length ≤ 63:=by omega
 clear hcond
 obtain ⟨vs,ha,hw⟩:=(show IsLst w.params s₁.heap (.ref a) (ofPy (PyData.list (ns.map PyData.int))) from well_list w1)
 replace ha:=ha a rfl
 have hseq:∃ o n,s₁.heap.get? a = some o ∧ o.data = .seq vs.toArray n:=⟨_,_,ha,rfl⟩
 let hb:=keepOnly s₁.heap fun b=>b != a
 have yes:∀ b,b ≠ a -> hb.get? b = s₁.heap.get? b:=fun b hne=>keepOnly_yes (by simpa using hne)
 have no:hb.get? a = none:=keepOnly_no (by simp)
 let F:=keepOnly s₁.heap fun b=>b == a
 have Fa:F.get? a = s₁.heap.get? a:=keepOnly_yes (by simp)
 have lk:Lnk (cxOf w s₁ hb mg mb):=by
  refine ⟨⟨fun b o e=>?_,Ns_of T.g (yes _ (Ns_ne T.g hseq)),Ns_of T.b (yes _ (Ns_ne T.b hseq)),?_,?_⟩,rfl,T.builtins,fun p hp=>?_⟩
  ·have e1:=KX b o e
   refine (yes b ?_).trans e1
   rintro rfl
   rw [ha] at e1; cases e1
   exact noLst_of (noLst_hd w.params) e rfl
  ·obtain ⟨mc,h1,h2⟩:=T.nolimit
   exact ⟨mc,Ns_of h1 (yes _ (Ns_ne h1 hseq)),h2⟩
  ·obtain ⟨mm,h1,_⟩:=(T.seer (by kernel_rfl)).mods
   have h2:=Ns_of h1 (yes _ (Ns_ne h1 hseq))
   obtain ⟨o,es,ep,ho,_⟩:=h2
   show (hb.get? sysModules).isSome = true
   rw [ho]; rfl
  ·obtain ⟨b,o,vs',t,h1,h2,h3,h4⟩:=KC p hp
   refine ⟨b,o,vs',t,h1,(yes b ?_).trans h2,h3,h4⟩
   rintro rfl
   rw [ha] at h2; cases h2; cases h3
 obtain ⟨H',hg'⟩:=plain ns hn
 have hS:Store (cxOf w s₁ hb mg mb) hb F ⟨[],[]⟩ (hOf []) s₁:=by
  refine ⟨⟨s₁.heap,s₁.toks,rfl⟩,fun _ _ e=>e,fun b o e=>(keepOnly_of e).1,fun b o e=>(keepOnly_of e).1,fun b o e=>?_,fun g=>?_,fun g n a o g' n' o' l=>?_,fun g n a o l=>?_⟩
  ·refine keepOnly_no ?_
   have:=(keepOnly_of e).2
   simpa using this
  ·cases g <;> rfl
  ·obtain ⟨e,_⟩:=l; cases g <;> cases e
  ·obtain ⟨e,_⟩:=l; cases g <;> cases e
 have hv:VAll (cxOf w s₁ hb mg mb) F ⟨[],[]⟩ [.ref a] [.lst (ns.map V.int)]:=.cons (.lst (Fa.trans ha) (vall_ints ns hw)) .nil
 refine wpAny_mono ((fs _ lk).run callerA ⟨rfl,by decide,by decide⟩ hb F [] [] s₁ hS [.ref a] _ _ H' rfl hv hg') (fun cv s' q_=>?_) fun _ _ x=>x.elim
 obtain ⟨F',ρ',x,S',r⟩:=q_
 obtain rfl:cv = .bool true:=r.inv
 obtain ⟨h,tk,rfl⟩:=S'.reach
 refine GoodW.toG ⟨.inl ⟨_,_,[],rfl,fun _=>rfl,.bool true,?_,fun _=>⟨.nil,fun _ h=>by cases h⟩⟩,fun b o e=>?_,rfl,hg⟩
 ·kernel_rfl
 ·by_cases hne:b = a
  ·subst hne
   exact S'.hF _ _ (x.f _ _ (Fa.trans e))
  ·exact S'.hK _ _ ((yes b hne).trans e)
theorem plain (ns:List Int) (hn:ns.length ≤ 63):∃ H',g_law [.lst (ns.map V.int)] [] = some (.bool true,H'):=by
 obtain ⟨v,H',e,rfl⟩:=law_is ns hn
 exact ⟨H',e⟩
end Mine
theorem PySem.Challenge.cw_sa0172_01_holds : PySem.Challenge.rw_sa0172_01.Holds :=
 Mine.join (g := Mine.g_law) (fun _ lk => Mine.fs_law lk) Mine.plain