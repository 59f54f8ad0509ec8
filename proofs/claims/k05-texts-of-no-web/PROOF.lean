import PyProof.Rows.All
import Wide.All
import OpenK.AllK
import Wide.FinOn
import PySem.Str
import HandS.ForMost
import HandS.Lambda
import HandS.More
import KE.GoesEnum
import HandS.IsInst
import HandS.Text
import HandS.Wide
import HandS.Defaults
import HandS.SetKeys
import HandS.MakeKwOnly
import HandS.Conv
import PyProof.DictMoreH
import KE.KSortTupG
import HandS.Sort
import HandS.SortOrd
import HandS.TupSets
import HandS.Set
import HandS.SetBool
import HandS.Codes
import HandS.Zip
import PyProof.P3Eq
import KE.KStateDown
import HandS.HeadEnd
import HandS.Head2
import HandS.HeadHook2
import HandS.Small
import HandS.DictComp
import HandS.Deep
import HandS.ExcInit
import HandS.ExcField
import HandS.HeadWalk
import HandS.TupLe
import HandS.TupAny
import HandS.NamedTupGet
import HandS.SlotsOwn
import HandS.WideBits
import KE.SortData
import HandS.OwnEq
import HandS.NamedTupSort
import PyProof.InstEq
import HandS.WordsDict
import HandS.TryOnly
import HandS.SortInts
import HandS.SetFor
import HandS.Strs
import PyProof.TupleKey
import PyProof.DictRoadsH
import HandS.Dict
import HandS.FStr
import HandS.RaiseMore
import HandS.Style
import KE.KUnpackStar
import PySem.Challenge.RW_wardweb_k05_texts_of_no_web
set_option Elab.async false
set_option linter.all false
set_option maxRecDepth 100000
namespace HTr
open PySem
inductive T where
  | non
  | bl (b : Bool)
  | int (i : Int)
  | str (x : Str)
  | tup (ts : List T)
  | lst (ts : List T)
  | dct (tk : Bool) (ks vs : List T)
  | obj (C : Nat) (ns : List Str) (vs : List T)
  | box (b : Nat)
  | scr (xs : List Int)
  | dd (hs : List (List (Sum Int Str)) → Int) (kvs : List (List (List (Sum Int Str)) × Int))
  | at (a : Nat) (t : T)
inductive L where
  | fz (t : T)
  | tup (ls : List L)
  | lst (ls : List L)
  | dct (tk : Bool) (ks : List T) (vs : List L)
  | obj (C : Nat) (ns : List Str) (vs : List L)
  | pin (a : Nat) (l : L)
mutual
def L.tree : L → T
  | .fz t => t
  | .tup ls => .tup (L.trees ls)
  | .lst ls => .lst (L.trees ls)
  | .dct tk ks vs => .dct tk ks (L.trees vs)
  | .obj C ns vs => .obj C ns (L.trees vs)
  | .pin _ l => l.tree
def L.trees : List L → List T
  | [] => []
  | l :: ls => l.tree :: L.trees ls
end
theorem L.trees_eq (ls : List L) : L.trees ls = ls.map L.tree := by
  induction ls with
  | nil => rfl
  | cons l ls ih => simp [L.trees, ih]
@[simp] theorem L.trees_fz (ts : List T) : L.trees (ts.map L.fz) = ts := by
  induction ts with
  | nil => rfl
  | cons t ts ih => simp [L.trees, L.tree, ih]
def L.isFz : L → Bool
  | .fz _ => true
  | _ => false
def L.strip : L → L
  | .pin _ l => l
  | .fz (.at _ t) => .fz t
  | l => l
abbrev S := List (Option L)
end HTr
namespace HTr
open PySem L2
def keyT : Key → T
  | .inl i => .int i
  | .inr x => .str x
def boxP (b l : Addr) : Heap → Prop := fun h => ∃ (i j k : Int) (its : List Value) (n : Nat), 0 ≤ i ∧ 0 ≤ j ∧ 0 ≤ k ∧ k < 2147483563 ∧
  Vals [.ref l, .int i, .int j, .int k] its ∧ h.get? b = some { cls := .type "list", data := .seq its.toArray n }
def ddO (hs : List (List Key) → Int) (a : Addr) (xs : List (List (List Key) × Addr × Value)) : HO := .ext fun h => (a == sysModules) = false ∧ xs.length ≤ sizeLine ∧ (xs.map (·.1)).Nodup ∧
  ∃ o es ep, h.get? a = some o ∧ o.ExactDict ∧ o.data = .dict es ep ∧ es.toList = xs.map fun x => (⟨hs x.1, .ref x.2.1, x.2.2⟩ : DictEntry)
def DeepT (K : PySem.W.Frag) (F : Hp) (b : Addr) (ks : List (List Key)) : Prop := ∃ cs : List Addr, SqT K F b (cs.map V.ref) ∧ Paired (fun c k => SqT K F c (k.map kV)) cs ks
section
variable (K : PySem.W.Frag)
mutual
def RT (F : Hp) : T → V → Prop
  | .non, v => v = .non
  | .bl b, v => v = .bl b
  | .int i, v => v = .int i
  | .str x, v => v = .str x
  | .tup ts, v => ∃ a vs, v = .ref a ∧ SqT K F a vs ∧ RTs F ts vs
  | .lst ts, v => ∃ a vs, v = .ref a ∧ F a = some (.lst vs) ∧ RTs F ts vs
  | .dct tk ks ts, v => ∃ a, v = .ref a ∧
      ((tk = false ∧ ∃ kvs : List (Key × V), F a = some (.dK kvs) ∧ ks = kvs.map (fun p => keyT p.1) ∧ RTs F ts (kvs.map (·.2))) ∨
       (tk = true ∧ ∃ kvs : List (List Key × V), F a = some (.dT kvs) ∧ ks = kvs.map (fun p => .tup (p.1.map keyT)) ∧ RTs F ts (kvs.map (·.2))))
  | .obj C ns ts, v => ∃ a dx vs, v = .ref a ∧ F a = some (.ins C dx (ns.zip vs)) ∧ F dx = some (.own a) ∧ ns.length = vs.length ∧ RTs F ts vs
  | .box b, v => v = .ref b ∧ ∃ (l : Addr) (xs : List Int), F b = some (.ext (boxP b l)) ∧ F l = some (.lst (xs.map V.int))
  | .scr xs, v => ∃ a, v = .ref a ∧ SqL K F a (xs.map V.int)
  | .dd hs kvs, v => ∃ a xs, v = .ref a ∧ F a = some (ddO hs a xs) ∧ Paired (fun (p : List (List Key) × Int) (x : List (List Key) × Addr × Value) => p.1 = x.1 ∧ DeepT K F x.2.1 x.1 ∧ RelV (.int p.2) x.2.2) kvs xs
  | .at a t, v => v = .ref a ∧ RT F t v
def RTs (F : Hp) : List T → List V → Prop
  | [], vs => vs = []
  | t :: ts, vs => ∃ v r, vs = v :: r ∧ RT F t v ∧ RTs F ts r
end
mutual
def RL (F H : Hp) : L → V → List Addr → Prop
  | .fz t, v, A => A = [] ∧ RT K F t v
  | .tup ls, v, A => ∃ a vs B, v = .ref a ∧ A = a :: B ∧ H a = some (.tup vs) ∧ RLs F H ls vs B
  | .lst ls, v, A => ∃ a vs B, v = .ref a ∧ A = a :: B ∧ H a = some (.lst vs) ∧ RLs F H ls vs B
  | .dct tk ks ls, v, A => ∃ a B, v = .ref a ∧ A = a :: B ∧
      ((tk = false ∧ ∃ kvs : List (Key × V), H a = some (.dK kvs) ∧ ks = kvs.map (fun p => keyT p.1) ∧ RLs F H ls (kvs.map (·.2)) B) ∨
       (tk = true ∧ ∃ kvs : List (List Key × V), H a = some (.dT kvs) ∧ ks = kvs.map (fun p => .tup (p.1.map keyT)) ∧ RLs F H ls (kvs.map (·.2)) B))
  | .obj C ns ls, v, A => ∃ a dx vs B, v = .ref a ∧ A = a :: dx :: B ∧ H a = some (.ins C dx (ns.zip vs)) ∧ H dx = some (.own a) ∧ ns.length = vs.length ∧ RLs F H ls vs B
  | .pin a l, v, A => v = .ref a ∧ RL F H l v A
def RLs (F H : Hp) : List L → List V → List Addr → Prop
  | [], vs, A => vs = [] ∧ A = []
  | l :: ls, vs, A => ∃ v r B C, vs = v :: r ∧ A = B ++ C ∧ RL F H l v B ∧ RLs F H ls r C
end
end
def NT (o : HO) : Prop := ∀ ps, o ≠ .tbl ps
structure Same (H H' : Hp) : Prop where
  k : ∀ {a : Addr} {o : HO}, H a = some o → NT o → H' a = some o
  d : ∀ {a : Addr}, H a ≠ none → H' a ≠ none
theorem Same.g {H H' : Hp} (h : Same H H') {a : Addr} {o : HO} (e : H a = some o) (n : NT o := by intro _ z; cases z) : H' a = some o := h.k e n
theorem Same.of {H H' : Hp} (h : ∀ a o, H a = some o → H' a = some o) : Same H H' := ⟨fun e _ => h _ _ e, fun {a} n => by
  cases e : H a with
  | none => exact absurd e n
  | some o => rw [h a o e]; simp⟩
theorem Same.refl (H : Hp) : Same H H := ⟨fun e _ => e, fun e => e⟩
theorem Same.trans {H H1 H2 : Hp} (a : Same H H1) (b : Same H1 H2) : Same H H2 := ⟨fun e n => b.k (a.k e n) n, fun e => b.d (a.d e)⟩
theorem Same.ne {H H' : Hp} (h : Same H H') {a : Addr} (n : H a ≠ none) : H' a ≠ none := h.d n
theorem Same.free {H H' : Hp} (h : Same H H') {a : Addr} (e : H' a = none) : H a = none := by
  cases q : H a with
  | none => rfl
  | some o => exact absurd e (h.ne (by rw [q]; simp))
def lamNames : List Str := ["law", "_law_unfolds_right", "_law_does", "_law_in_use", "_law_behind_others", "_law_rules_behind", "_law_row_let", "_law_calls_of_goals"]
def tabOf (K : PySem.W.Frag) (x : Str) : Option Addr := (PySem.W.tabIn K x).map (·.2)
def Tb (K : PySem.W.Frag) (H : Hp) : Prop := ∀ x ∈ lamNames, ∀ P, tabOf K x = some P → LamX.TabS H P (x ++ ".<locals>." ++ "<lambda>")
def TabA (H H' : Hp) : Prop := ∀ P q, LamX.TabS H P q → LamX.TabS H' P q
def TabK (K : PySem.W.Frag) (H H' : Hp) : Prop := Tb K H → Tb K H'
theorem TabA.to {K : PySem.W.Frag} {H H' : Hp} (h : TabA H H') : TabK K H H' := fun t x hx P e => h P _ (t x hx P e)
theorem Tb.on {K : PySem.W.Frag} {H H' : Hp} (t : Tb K H) (h : TabK K H H') : Tb K H' := h t
structure SameH (K : PySem.W.Frag) (H H' : Hp) : Prop where
  s : Same H H'
  t : TabK K H H'
section
variable {K : PySem.W.Frag}
theorem SameH.of {H H' : Hp} (h : ∀ a o, H a = some o → H' a = some o) : SameH K H H' := ⟨.of h, TabA.to fun _ _ z => z.ext h⟩
theorem SameH.refl (H : Hp) : SameH K H H := ⟨.refl _, fun z => z⟩
theorem SameH.trans {H H1 H2 : Hp} (a : SameH K H H1) (b : SameH K H1 H2) : SameH K H H2 := ⟨a.s.trans b.s, fun z => b.t (a.t z)⟩
end
theorem sqL_same {K : PySem.W.Frag} {H H' : Hp} {a : Addr} {xs : List V} (e : Same H H') (h : SqL K H a xs) : SqL K H' a xs := by
  rcases h with (h | ⟨o, h⟩) | h
  · exact .inl (.inl (e.g h))
  · exact .inl (.inr ⟨o, e.g h⟩)
  · exact .inr h
theorem seqT_same {K : PySem.W.Frag} {H H' : Hp} {a : Addr} {xs : List V} (e : Same H H') (h : SqT K H a xs) : SqT K H' a xs := by
  rcases h with (h | ⟨o, h⟩) | h
  · exact .inl (.inl (e.g h))
  · exact .inl (.inr ⟨o, e.g h⟩)
  · exact .inr h
theorem paired_imp {α β : Type} {R S : α → β → Prop} (h : ∀ a b, R a b → S a b) {xs : List α} {ys : List β} (p : Paired R xs ys) : Paired S xs ys := by
  induction p with
  | nil => exact .nil
  | cons a _ ih => exact .cons (h _ _ a) ih
theorem DeepT.mono {K : PySem.W.Frag} {F F' : Hp} (hs : Same F F') {b : Addr} {ks : List (List Key)} : DeepT K F b ks → DeepT K F' b ks := fun ⟨cs, h1, h2⟩ => ⟨cs, seqT_same hs h1, paired_imp (fun _ _ => seqT_same hs) h2⟩
theorem dds_mono {K : PySem.W.Frag} {F F' : Hp} (hs : Same F F') {kvs : List (List (List Key) × Int)} {xs : List (List (List Key) × Addr × Value)} (h : Paired (fun (p : List (List Key) × Int) (x : List (List Key) × Addr × Value) => p.1 = x.1 ∧ DeepT K F x.2.1 x.1 ∧ RelV (.int p.2) x.2.2) kvs xs) :
    Paired (fun (p : List (List Key) × Int) (x : List (List Key) × Addr × Value) => p.1 = x.1 ∧ DeepT K F' x.2.1 x.1 ∧ RelV (.int p.2) x.2.2) kvs xs := paired_imp (fun _ _ a => ⟨a.1, a.2.1.mono hs, a.2.2⟩) h
section
variable {K : PySem.W.Frag} {F F' H H' : Hp}
mutual
theorem RT.mono (hs : Same F F') : ∀ {t : T} {v : V}, RT K F t v → RT K F' t v
  | .non, _, h => h
  | .bl _, _, h => h
  | .int _, _, h => h
  | .str _, _, h => h
  | .box b, _, ⟨e, l, xs, h1, h2⟩ => ⟨e, l, xs, hs.g h1, hs.g h2⟩
  | .scr xs, _, ⟨a, e, q⟩ => ⟨a, e, sqL_same hs q⟩
  | .dd _ _, _, ⟨a, xs, e, q, p⟩ => ⟨a, xs, e, hs.g q, dds_mono hs p⟩
  | .at a t, _, ⟨e, h⟩ => ⟨e, RT.mono hs h⟩
  | .tup ts, v, ⟨a, vs, e, q, r⟩ => ⟨a, vs, e, seqT_same hs q, RTs.mono hs r⟩
  | .lst ts, v, ⟨a, vs, e, q, r⟩ => ⟨a, vs, e, hs.g q, RTs.mono hs r⟩
  | .dct tk ks ts, v, ⟨a, e, .inl ⟨et, kvs, q, ek, r⟩⟩ => ⟨a, e, .inl ⟨et, kvs, hs.g q, ek, RTs.mono hs r⟩⟩
  | .dct tk ks ts, v, ⟨a, e, .inr ⟨et, kvs, q, ek, r⟩⟩ => ⟨a, e, .inr ⟨et, kvs, hs.g q, ek, RTs.mono hs r⟩⟩
  | .obj C ns ts, v, ⟨a, dx, vs, e, q, d, n, r⟩ => ⟨a, dx, vs, e, hs.g q, hs.g d, n, RTs.mono hs r⟩
theorem RTs.mono (hs : Same F F') : ∀ {ts : List T} {vs : List V}, RTs K F ts vs → RTs K F' ts vs
  | [], _, h => h
  | t :: ts, _, ⟨v, r, e, h1, h2⟩ => ⟨v, r, e, RT.mono hs h1, RTs.mono hs h2⟩
end
def On (A : List Addr) (H H' : Hp) : Prop := ∀ a ∈ A, ∀ o, H a = some o → NT o → H' a = some o
theorem On.of (h : Same H H') (A : List Addr) : On A H H' := fun a _ o e n => h.k e n
theorem On.left {A B : List Addr} (h : On (A ++ B) H H') : On A H H' := fun a ha => h a (List.mem_append_left _ ha)
theorem On.right {A B : List Addr} (h : On (A ++ B) H H') : On B H H' := fun a ha => h a (List.mem_append_right _ ha)
theorem On.head {a : Addr} {B : List Addr} (h : On (a :: B) H H') {o : HO} (e : H a = some o) (n : NT o := by intro _ z; cases z) : H' a = some o := h a List.mem_cons_self o e n
theorem On.tail {a : Addr} {B : List Addr} (h : On (a :: B) H H') : On B H H' := fun b hb => h b (List.mem_cons_of_mem _ hb)
mutual
theorem RL.mono (hf : Same F F') : ∀ {l : L} {v : V} {A : List Addr}, On A H H' → RL K F H l v A → RL K F' H' l v A
  | .fz t, _, _, _, ⟨e, h⟩ => ⟨e, RT.mono hf h⟩
  | .tup ls, v, A, ho, ⟨a, vs, B, e, eA, q, r⟩ => by
    subst eA
    exact ⟨a, vs, B, e, rfl, ho.head q, RLs.mono hf ho.tail r⟩
  | .lst ls, v, A, ho, ⟨a, vs, B, e, eA, q, r⟩ => by
    subst eA
    exact ⟨a, vs, B, e, rfl, ho.head q, RLs.mono hf ho.tail r⟩
  | .dct tk ks ls, v, A, ho, ⟨a, B, e, eA, .inl ⟨et, kvs, q, ek, r⟩⟩ => by
    subst eA
    exact ⟨a, B, e, rfl, .inl ⟨et, kvs, ho.head q, ek, RLs.mono hf ho.tail r⟩⟩
  | .dct tk ks ls, v, A, ho, ⟨a, B, e, eA, .inr ⟨et, kvs, q, ek, r⟩⟩ => by
    subst eA
    exact ⟨a, B, e, rfl, .inr ⟨et, kvs, ho.head q, ek, RLs.mono hf ho.tail r⟩⟩
  | .obj C ns ls, v, A, ho, ⟨a, dx, vs, B, e, eA, q, d, n, r⟩ => by
    subst eA
    exact ⟨a, dx, vs, B, e, rfl, ho.head q, ho.tail.head d, n, RLs.mono hf ho.tail.tail r⟩
  | .pin a l, v, A, ho, ⟨e, r⟩ => ⟨e, RL.mono hf ho r⟩
theorem RLs.mono (hf : Same F F') : ∀ {ls : List L} {vs : List V} {A : List Addr}, On A H H' → RLs K F H ls vs A → RLs K F' H' ls vs A
  | [], _, _, _, h => h
  | l :: ls, _, A, ho, ⟨v, r, B, C, e, eA, h1, h2⟩ => by
    subst eA
    exact ⟨v, r, B, C, e, rfl, RL.mono hf ho.left h1, RLs.mono hf ho.right h2⟩
end
mutual
theorem RL.dom : ∀ {l : L} {v : V} {A : List Addr}, RL K F H l v A → ∀ a ∈ A, H a ≠ none
  | .fz t, _, _, ⟨e, _⟩, a, ha => by subst e; cases ha
  | .tup ls, v, A, ⟨a, vs, B, e, eA, q, r⟩, b, hb => by
    subst eA
    rcases List.mem_cons.mp hb with rfl | hb
    · rw [q]; simp
    · exact RLs.dom r b hb
  | .lst ls, v, A, ⟨a, vs, B, e, eA, q, r⟩, b, hb => by
    subst eA
    rcases List.mem_cons.mp hb with rfl | hb
    · rw [q]; simp
    · exact RLs.dom r b hb
  | .dct tk ks ls, v, A, ⟨a, B, e, eA, .inl ⟨et, kvs, q, ek, r⟩⟩, b, hb => by
    subst eA
    rcases List.mem_cons.mp hb with rfl | hb
    · rw [q]; simp
    · exact RLs.dom r b hb
  | .dct tk ks ls, v, A, ⟨a, B, e, eA, .inr ⟨et, kvs, q, ek, r⟩⟩, b, hb => by
    subst eA
    rcases List.mem_cons.mp hb with rfl | hb
    · rw [q]; simp
    · exact RLs.dom r b hb
  | .obj C ns ls, v, A, ⟨a, dx, vs, B, e, eA, q, d, n, r⟩, b, hb => by
    subst eA
    rcases List.mem_cons.mp hb with rfl | hb
    · rw [q]; simp
    · rcases List.mem_cons.mp hb with rfl | hb
      · rw [d]; simp
      · exact RLs.dom r b hb
  | .pin a l, v, A, ⟨e, r⟩, b, hb => RL.dom r b hb
theorem RLs.dom : ∀ {ls : List L} {vs : List V} {A : List Addr}, RLs K F H ls vs A → ∀ a ∈ A, H a ≠ none
  | [], _, _, ⟨_, e⟩, a, ha => by subst e; cases ha
  | l :: ls, _, A, ⟨v, r, B, C, e, eA, h1, h2⟩, a, ha => by
    subst eA
    rcases List.mem_append.mp ha with ha | ha
    · exact RL.dom h1 a ha
    · exact RLs.dom h2 a ha
end
def Plain (a : Addr) (o : HO) : Prop := NT o ∧ ∀ q, o ≠ LamX.CodeO a q
mutual
theorem RL.plain : ∀ {l : L} {v : V} {A : List Addr}, RL K F H l v A → ∀ a ∈ A, ∃ o, H a = some o ∧ Plain a o
  | .fz t, _, _, ⟨e, _⟩, a, ha => by subst e; cases ha
  | .tup ls, v, A, ⟨a, vs, B, e, eA, q, r⟩, b, hb => by
    subst eA
    rcases List.mem_cons.mp hb with rfl | hb
    · exact ⟨_, q, (fun _ z => (by cases z)), (fun _ z => (by unfold LamX.CodeO at z; cases z))⟩
    · exact RLs.plain r b hb
  | .lst ls, v, A, ⟨a, vs, B, e, eA, q, r⟩, b, hb => by
    subst eA
    rcases List.mem_cons.mp hb with rfl | hb
    · exact ⟨_, q, (fun _ z => (by cases z)), (fun _ z => (by unfold LamX.CodeO at z; cases z))⟩
    · exact RLs.plain r b hb
  | .dct tk ks ls, v, A, ⟨a, B, e, eA, .inl ⟨et, kvs, q, ek, r⟩⟩, b, hb => by
    subst eA
    rcases List.mem_cons.mp hb with rfl | hb
    · exact ⟨_, q, (fun _ z => (by cases z)), (fun _ z => (by unfold LamX.CodeO at z; cases z))⟩
    · exact RLs.plain r b hb
  | .dct tk ks ls, v, A, ⟨a, B, e, eA, .inr ⟨et, kvs, q, ek, r⟩⟩, b, hb => by
    subst eA
    rcases List.mem_cons.mp hb with rfl | hb
    · exact ⟨_, q, (fun _ z => (by cases z)), (fun _ z => (by unfold LamX.CodeO at z; cases z))⟩
    · exact RLs.plain r b hb
  | .obj C ns ls, v, A, ⟨a, dx, vs, B, e, eA, q, d, n, r⟩, b, hb => by
    subst eA
    rcases List.mem_cons.mp hb with rfl | hb
    · exact ⟨_, q, (fun _ z => (by cases z)), (fun _ z => (by unfold LamX.CodeO at z; cases z))⟩
    · rcases List.mem_cons.mp hb with rfl | hb
      · exact ⟨_, d, (fun _ z => (by cases z)), (fun _ z => (by unfold LamX.CodeO at z; cases z))⟩
      · exact RLs.plain r b hb
  | .pin a l, v, A, ⟨e, r⟩, b, hb => RL.plain r b hb
theorem RLs.plain : ∀ {ls : List L} {vs : List V} {A : List Addr}, RLs K F H ls vs A → ∀ a ∈ A, ∃ o, H a = some o ∧ Plain a o
  | [], _, _, ⟨_, e⟩, a, ha => by subst e; cases ha
  | l :: ls, _, A, ⟨v, r, B, C, e, eA, h1, h2⟩, a, ha => by
    subst eA
    rcases List.mem_append.mp ha with ha | ha
    · exact RL.plain h1 a ha
    · exact RLs.plain h2 a ha
end
theorem tab_off {H H2 : Hp} {B : List Addr} (hB : ∀ a ∈ B, ∃ o, H a = some o ∧ Plain a o) (e1 : ∀ a, a ∉ B → H2 a = H a) : TabA H H2 := fun P q ⟨ps, h1, h2, h3⟩ => by
  have nP : P ∉ B := fun z => by
    obtain ⟨o, e, n, _⟩ := hB P z
    rw [h1] at e
    cases e
    exact n ps rfl
  refine ⟨ps, by rw [e1 P nP]; exact h1, h2, fun pos cv hc => ?_⟩
  obtain ⟨c, e2, e3⟩ := h3 pos cv hc
  refine ⟨c, e2, ?_⟩
  have nc : c ∉ B := fun z => by
    obtain ⟨o, e, _, n⟩ := hB c z
    rw [e3] at e
    cases e
    exact n q rfl
  rw [e1 c nc]; exact e3
mutual
theorem RL.tree (hf : Same F F') : ∀ {l : L} {v : V} {A : List Addr}, On A H F' → RL K F H l v A → RT K F' l.tree v
  | .fz t, _, _, _, ⟨_, h⟩ => RT.mono hf h
  | .tup ls, v, A, ho, ⟨a, vs, B, e, eA, q, r⟩ => by
    subst eA
    exact ⟨a, vs, e, .inl (.inl (ho.head q)), RLs.tree hf ho.tail r⟩
  | .lst ls, v, A, ho, ⟨a, vs, B, e, eA, q, r⟩ => by
    subst eA
    exact ⟨a, vs, e, ho.head q, RLs.tree hf ho.tail r⟩
  | .dct tk ks ls, v, A, ho, ⟨a, B, e, eA, .inl ⟨et, kvs, q, ek, r⟩⟩ => by
    subst eA
    exact ⟨a, e, .inl ⟨et, kvs, ho.head q, ek, RLs.tree hf ho.tail r⟩⟩
  | .dct tk ks ls, v, A, ho, ⟨a, B, e, eA, .inr ⟨et, kvs, q, ek, r⟩⟩ => by
    subst eA
    exact ⟨a, e, .inr ⟨et, kvs, ho.head q, ek, RLs.tree hf ho.tail r⟩⟩
  | .obj C ns ls, v, A, ho, ⟨a, dx, vs, B, e, eA, q, d, n, r⟩ => by
    subst eA
    exact ⟨a, dx, vs, e, ho.head q, ho.tail.head d, n, RLs.tree hf ho.tail.tail r⟩
  | .pin a l, v, A, ho, ⟨e, r⟩ => by
    have z : RT K F' l.tree v := RL.tree hf ho r
    exact z
theorem RLs.tree (hf : Same F F') : ∀ {ls : List L} {vs : List V} {A : List Addr}, On A H F' → RLs K F H ls vs A → RTs K F' (L.trees ls) vs
  | [], _, _, _, ⟨e, _⟩ => e
  | l :: ls, _, A, ho, ⟨v, r, B, C, e, eA, h1, h2⟩ => by
    subst eA
    exact ⟨v, r, e, RL.tree hf ho.left h1, RLs.tree hf ho.right h2⟩
end
def CS (K : PySem.W.Frag) (F H : Hp) : S → St → List Addr → Prop
  | [], σ, A => σ = [] ∧ A = []
  | none :: S, σ, A => ∃ o r, σ = o :: r ∧ CS K F H S r A
  | some l :: S, σ, A => ∃ v r B C, σ = some v :: r ∧ A = B ++ C ∧ RL K F H l v B ∧ CS K F H S r C
theorem CS.mono (hf : Same F F') : ∀ {S : S} {σ : St} {A : List Addr}, On A H H' → CS K F H S σ A → CS K F' H' S σ A
  | [], _, _, _, h => h
  | none :: S, _, _, ho, ⟨o, r, e, h⟩ => ⟨o, r, e, CS.mono hf ho h⟩
  | some l :: S, _, A, ho, ⟨v, r, B, C, e, eA, h1, h2⟩ => by
    subst eA
    exact ⟨v, r, B, C, e, rfl, RL.mono hf ho.left h1, CS.mono hf ho.right h2⟩
theorem CS.dom : ∀ {S : S} {σ : St} {A : List Addr}, CS K F H S σ A → ∀ a ∈ A, H a ≠ none
  | [], _, _, ⟨_, e⟩, a, ha => by subst e; cases ha
  | none :: S, _, _, ⟨o, r, e, h⟩, a, ha => CS.dom h a ha
  | some l :: S, _, A, ⟨v, r, B, C, e, eA, h1, h2⟩, a, ha => by
    subst eA
    rcases List.mem_append.mp ha with ha | ha
    · exact RL.dom h1 a ha
    · exact CS.dom h2 a ha
theorem CS.len : ∀ {S : S} {σ : St} {A : List Addr}, CS K F H S σ A → σ.length = S.length
  | [], _, _, ⟨e, _⟩ => by subst e; rfl
  | none :: S, _, _, ⟨o, r, e, h⟩ => by subst e; simp [CS.len h]
  | some l :: S, _, A, ⟨v, r, B, C, e, eA, h1, h2⟩ => by subst e; simp [CS.len h2]
theorem CS.get : ∀ {S : S} {σ : St} {A : List Addr} {i : Nat} {l : L}, CS K F H S σ A → S[i]? = some (some l) → ∃ v B, σ[i]? = some (some v) ∧ RL K F H l v B ∧ ∀ a ∈ B, a ∈ A
  | none :: S, _, A, 0, l, _, e => by simp at e
  | none :: S, _, A, i + 1, l, ⟨o, r, eσ, h⟩, e => by
    subst eσ
    obtain ⟨v, B, h1, h2, h3⟩ := CS.get (i := i) h (by simpa using e)
    exact ⟨v, B, by simpa using h1, h2, h3⟩
  | some l' :: S, _, A, 0, l, ⟨v, r, B, C, eσ, eA, h1, h2⟩, e => by
    subst eσ eA
    simp at e
    subst e
    exact ⟨v, B, by simp, h1, fun a ha => List.mem_append_left _ ha⟩
  | some l' :: S, _, A, i + 1, l, ⟨v, r, B, C, eσ, eA, h1, h2⟩, e => by
    subst eσ eA
    obtain ⟨w, B', h3, h4, h5⟩ := CS.get (i := i) h2 (by simpa using e)
    exact ⟨w, B', by simpa using h3, h4, fun a ha => List.mem_append_right _ (h5 a ha)⟩
structure Ok (K : PySem.W.Frag) (F H : Hp) (S : S) (σ : St) (A : List Addr) : Prop where
  fh : Same F H
  cs : CS K F H S σ A
  nd : A.Nodup
  nf : ∀ a ∈ A, F a = none
  tb : Tb K H
structure RP (K : PySem.W.Frag) (F H F' H' : Hp) : Prop where
  hx : SameH K H H'
  ff : Same F F'
  fh : Same F' H'
  nw : ∀ a, F' a ≠ none → F a ≠ none ∨ H a = none
theorem RP.hh (r : RP K F H F' H') : Same H H' := r.hx.s
theorem RP.refl (h : Same F H) : RP K F H F H := ⟨SameH.refl _, Same.refl _, h, fun _ z => .inl z⟩
theorem RP.trans {F2 H2 : Hp} (a : RP K F H F' H') (b : RP K F' H' F2 H2) : RP K F H F2 H2 :=
  ⟨a.hx.trans b.hx, a.ff.trans b.ff, b.fh, fun c n => by
    rcases b.nw c n with z | z
    · exact a.nw c z
    · exact .inr (a.hh.free z)⟩
theorem RP.keepF {A : List Addr} (r : RP K F H F' H') (hd : ∀ a ∈ A, H a ≠ none) (hn : ∀ a ∈ A, F a = none) : ∀ a ∈ A, F' a = none := fun a ha => by
  cases e : F' a with
  | none => rfl
  | some o =>
    rcases r.nw a (by rw [e]; simp) with z | z
    · exact absurd (hn a ha) z
    · exact absurd z (hd a ha)
theorem Ok.rp {S : S} {σ : St} {A : List Addr} (k : Ok K F H S σ A) (r : RP K F H F' H') : Ok K F' H' S σ A :=
  ⟨r.fh, k.cs.mono r.ff (On.of r.hh _), k.nd, r.keepF k.cs.dom k.nf, k.tb.on r.hx.t⟩
def mix (A : List Addr) (F H : Hp) : Hp := fun a => if a ∈ A then H a else F a
theorem mix_in {A : List Addr} {a : Addr} (h : a ∈ A) : mix A F H a = H a := if_pos h
theorem mix_out {A : List Addr} {a : Addr} (h : a ∉ A) : mix A F H a = F a := if_neg h
theorem mix_same {A : List Addr} (h : Same F H) : Same F (mix A F H) := ⟨fun {a o} e n => by
  by_cases ha : a ∈ A
  · rw [mix_in ha]; exact h.k e n
  · rw [mix_out ha]; exact e, fun {a} n => by
  by_cases ha : a ∈ A
  · rw [mix_in ha]; exact h.d n
  · rw [mix_out ha]; exact n⟩
theorem mix_le {A : List Addr} (h : Same F H) : Same (mix A F H) H := ⟨fun {a o} e n => by
  by_cases ha : a ∈ A
  · rw [mix_in ha] at e; exact e
  · rw [mix_out ha] at e; exact h.k e n, fun {a} n => by
  by_cases ha : a ∈ A
  · rw [mix_in ha] at n; exact n
  · rw [mix_out ha] at n; exact h.d n⟩
theorem mix_on {A : List Addr} : On A H (mix A F H) := fun a ha o e _ => by rw [mix_in ha]; exact e
theorem mix_ne {A : List Addr} {a : Addr} (h : mix A F H a ≠ none) : F a ≠ none ∨ a ∈ A := by
  by_cases ha : a ∈ A
  · exact .inr ha
  · rw [mix_out ha] at h; exact .inl h
end
end HTr
namespace HTr
open PySem L2
abbrev MR := S → (L → Bool → Prop) → Prop
abbrev MA := S → (List L → Bool → Prop) → Prop
abbrev MT := S → (Bool → Prop) → Prop
structure ET where
  nx : S → Prop
  rt : L → S → Prop
  bk : S → Prop := fun _ => False
  ct : S → Prop := fun _ => False
  ex : Addr → List (Str × V) → S → Prop := fun _ _ _ => False
abbrev MS := ET → S → Prop
section
variable (K : PySem.W.Frag)
def liftR (m : MR) : TE := fun σ H Q => ∃ F S A G, Ok K F H S σ A ∧ m S G ∧ ∀ l o, G l o → ∀ v F' H' B, RP K F H F' H' → RL K F' H' l v B → (o = true → B.Nodup ∧ ∀ b ∈ B, F' b = none ∧ H b = none) → Q v H'
def liftA (m : MA) : TA := fun σ H Q => ∃ F S A G, Ok K F H S σ A ∧ m S G ∧ ∀ ls o, G ls o → ∀ vs F' H' B, RP K F H F' H' → RLs K F' H' ls vs B → (o = true → B.Nodup ∧ ∀ b ∈ B, F' b = none ∧ H b = none) → Q vs H'
def liftT (m : MT) : TT := fun σ H Q => ∃ F S A G, Ok K F H S σ A ∧ m S G ∧ ∀ b, G b → ∀ F' H', RP K F H F' H' → Q b H'
end
structure Step (K : PySem.W.Frag) (F H : Hp) (A : List Addr) (F' H' : Hp) (A' : List Addr) : Prop where
  ff : Same F F'
  ch : ∀ {a : Addr} {o : HO}, H a = some o → NT o → a ∉ A → H' a = some o
  tb : TabK K H H'
  dom : ∀ a, H a ≠ none → H' a ≠ none
  nA : ∀ a ∈ A', a ∈ A ∨ H a = none
  nF : ∀ a, F' a ≠ none → F a ≠ none ∨ a ∈ A ∨ H a = none
section
variable {K : PySem.W.Frag} {F H F1 H1 F2 H2 : Hp} {A A1 A2 : List Addr}
theorem Step.refl : Step K F H A F H A := ⟨Same.refl _, fun e _ _ => e, fun z => z, fun _ n => n, fun _ h => .inl h, fun _ n => .inl n⟩
theorem none_of_dom (h : ∀ a, H a ≠ none → H1 a ≠ none) {a : Addr} (e : H1 a = none) : H a = none := by
  cases q : H a with
  | none => rfl
  | some o => exact absurd e (h a (by rw [q]; simp))
theorem Step.trans (a : Step K F H A F1 H1 A1) (b : Step K F1 H1 A1 F2 H2 A2) : Step K F H A F2 H2 A2 where
  ff := a.ff.trans b.ff
  ch := fun {c o} e nt n => b.ch (a.ch e nt n) nt fun m => by
    rcases a.nA c m with z | z
    · exact n z
    · rw [z] at e; cases e
  tb := fun z => b.tb (a.tb z)
  dom := fun c n => b.dom c (a.dom c n)
  nA := fun c m => by
    rcases b.nA c m with z | z
    · exact a.nA c z
    · exact .inr (none_of_dom a.dom z)
  nF := fun c n => by
    rcases b.nF c n with z | z | z
    · exact a.nF c z
    · exact .inr (a.nA c z)
    · exact .inr (.inr (none_of_dom a.dom z))
theorem Step.sub {B : List Addr} (a : Step K F H A F1 H1 A1) (h : ∀ x ∈ B, x ∈ A1 ∨ H x = none) : Step K F H A F1 H1 B :=
  ⟨a.ff, a.ch, a.tb, a.dom, fun x hx => (h x hx).elim (fun z => a.nA x z) .inr, a.nF⟩
theorem RP.dom (r : RP K F H F1 H1) : ∀ a, H a ≠ none → H1 a ≠ none := fun a n => Same.ne r.hh n
theorem RP.step (r : RP K F H F1 H1) : Step K F H A F1 H1 A := ⟨r.ff, fun e n _ => r.hh.k e n, r.hx.t, r.dom, fun _ h => .inl h, fun a n => (r.nw a n).elim .inl fun z => .inr (.inr z)⟩
end
section
variable (K : PySem.W.Frag)
abbrev NoX : WX := fun _ _ _ _ => False
structure Conn (EX : WX) (F0 H0 : Hp) (A0 : List Addr) (e : ET) (D : Ends) : Prop where
  nx : ∀ F S σ H A, Ok K F H S σ A → Step K F0 H0 A0 F H A → e.nx S → D.nx σ H
  bk : ∀ F S σ H A, Ok K F H S σ A → Step K F0 H0 A0 F H A → e.bk S → D.bk σ H
  ct : ∀ F S σ H A, Ok K F H S σ A → Step K F0 H0 A0 F H A → e.ct S → D.ct σ H
  rt : ∀ F l S σ H A B v, Ok K F H S σ A → RL K F H l v B → (A ++ B).Nodup → (∀ b ∈ B, F b = none) → Step K F0 H0 A0 F H (A ++ B) → e.rt l S → D.rt v H
  ex : ∀ F S σ H A C fs d, Ok K F H S σ A → Step K F0 H0 A0 F H A → H d = some (.xd fs) → e.ex C fs S → EX (.ref C) (some d) σ H
def liftS (EX : WX) (m : MS) : TS := fun D σ H => ∃ F S A, Ok K F H S σ A ∧ ∃ e : ET, m e S ∧ Conn K EX F H A e D
end
theorem Conn.on {EX : WX} {K : PySem.W.Frag} {F0 H0 F1 H1 : Hp} {A0 A1 : List Addr} {e : ET} {D : Ends} (c : Conn K EX F0 H0 A0 e D) (s : Step K F0 H0 A0 F1 H1 A1) : Conn K EX F1 H1 A1 e D :=
  ⟨fun F S σ H A k t => c.nx F S σ H A k (s.trans t), fun F S σ H A k t => c.bk F S σ H A k (s.trans t), fun F S σ H A k t => c.ct F S σ H A k (s.trans t),
    fun F l S σ H A B v k r n f t => c.rt F l S σ H A B v k r n f (s.trans t), fun F S σ H A C fs d k t => c.ex F S σ H A C fs d k (s.trans t)⟩
section
variable {X : Cx} {K : PySem.W.Frag}
theorem peW {e : Expr} {t t' : TE} (h : PE X e t) (w : ∀ σ H Q, t' σ H Q → t σ H Q) : PE X e t' := ⟨fun pins s σ H Q I q => h.run pins s σ H Q I (w σ H Q q)⟩
theorem ptW {e : Expr} {t t' : TT} (h : PT X e t) (w : ∀ σ H Q, t' σ H Q → t σ H Q) : PT X e t' := ⟨fun pins s σ H Q I q => h.run pins s σ H Q I (w σ H Q q)⟩
theorem pwW {e : Expr} {t t' : TT} (h : PW X e t) (w : ∀ σ H Q, t' σ H Q → t σ H Q) : PW X e t' := ⟨fun wh pins s σ H Q I q => h.run wh pins s σ H Q I (w σ H Q q)⟩
theorem paW {es : List Expr} {t t' : TA} (h : PA X es t) (w : ∀ σ H Q, t' σ H Q → t σ H Q) : PA X es t' := ⟨fun pos pins s σ H Q I q => h.run pos pins s σ H Q I (w σ H Q q)⟩
theorem psW {st : Stmt} {t t' : TS} (h : PS X st t) (w : ∀ D σ H, t' D σ H → t D σ H) : PS X st t' := ⟨fun pins s σ H D I q => h.run pins s σ H D I (w D σ H q)⟩
theorem pssW {st : List Stmt} {t t' : TS} (h : PSs X st t) (w : ∀ D σ H, t' D σ H → t D σ H) : PSs X st t' := ⟨fun pins s σ H D I q => h.run pins s σ H D I (w D σ H q)⟩
def rVar (i : Nat) : MR := fun S Q => match S[i]? with
  | some (some l) => Q l.strip l.isFz
  | _ => False
theorem RL.strip {K : PySem.W.Frag} {F H : Hp} {l : L} {v : V} {A : List Addr} (h : RL K F H l v A) : RL K F H l.strip v A := by
  cases l with
  | pin a l => exact h.2
  | fz t =>
    cases t with
    | «at» a t => exact ⟨h.1, h.2.2⟩
    | _ => exact h
  | _ => exact h
def rC (t : T) : MR := fun _ Q => Q (.fz t) true
theorem lr_var {e : Expr} {i : Nat} (h : PE X e (tVar i)) : PE X e (liftR K (rVar i)) := peW h fun σ H Q ⟨F, S, A, G, k, q, w⟩ => by
  unfold rVar at q
  split at q
  · rename_i l e
    obtain ⟨v, B, h1, h2, h3⟩ := k.cs.get e
    refine ⟨v, h1, w l.strip _ q v F H B (RP.refl k.fh) h2.strip fun o => ?_⟩
    cases l with
    | fz t => obtain ⟨eB, _⟩ := h2; subst eB; exact ⟨.nil, fun _ z => by cases z⟩
    | _ => cases o
  · exact q.elim
def atomV : T → Option V
  | .non => some .non
  | .bl b => some (.bl b)
  | .int i => some (.int i)
  | .str x => some (.str x)
  | _ => none
theorem RT.atom {F : Hp} {t : T} {v u : V} (h : RT K F t v) (e : atomV t = some u) : v = u := by
  cases t <;> simp [atomV] at e <;> subst e <;> exact h
theorem RT.ofAtom {F : Hp} {t : T} {u : V} (e : atomV t = some u) : RT K F t u := by
  cases t <;> simp [atomV] at e <;> subst e <;> rfl
theorem RL.ofAtom {F H : Hp} {t : T} {u : V} (e : atomV t = some u) : RL K F H (.fz t) u [] := ⟨rfl, RT.ofAtom e⟩
theorem own_nil {F H : Hp} {o : Bool} : o = true → ([] : List Addr).Nodup ∧ ∀ b ∈ ([] : List Addr), F b = none ∧ H b = none := fun _ => ⟨.nil, fun _ z => by cases z⟩
theorem lr_c {e : Expr} {t : T} {v : V} (h : PE X e (tC v)) (hv : atomV t = some v := by rfl) : PE X e (liftR K (rC t)) := peW h fun σ H Q ⟨F, S, A, G, k, q, w⟩ =>
  w _ _ q v F H [] (RP.refl k.fh) (RL.ofAtom hv) own_nil
theorem RL.seen {F H : Hp} {l : L} {v : V} {A : List Addr} (h : RL K F H l v A) (fh : Same F H) : RT K H l.tree v := h.tree fh (fun _ _ _ e _ => e)
end
end HTr
namespace HTr
open PySem L2
section
variable {K : PySem.W.Frag} {F H : Hp} {Q : VK} {G : L → Prop}
def Out (K : PySem.W.Frag) (F H : Hp) (G : L → Prop) (Q : VK) : Prop :=
  ∀ u, G u → ∀ v F' H' C, RP K F H F' H' → RL K F' H' u v C → C.Nodup → (∀ c ∈ C, F' c = none ∧ H c = none) → Q v H'
theorem Out.atom (o : Out K F H G Q) (fh : Same F H) {t : T} {v : V} (g : G (.fz t)) (e : atomV t = some v) : Q v H :=
  o _ g v F H [] (RP.refl fh) (RL.ofAtom e) .nil (fun _ z => by cases z)
theorem Out.fz (o : Out K F H G Q) (fh : Same F H) {t : T} {v : V} (g : G (.fz t)) (e : RT K F t v) : Q v H :=
  o _ g v F H [] (RP.refl fh) ⟨rfl, e⟩ .nil (fun _ z => by cases z)
theorem upd_freshH {p : Addr} {o : HO} (h : H p = none) : SameH K H (upd H p o) := .of fun b u e => by rw [upd_ne (ne_of_none e h)]; exact e
theorem upd_fresh {p : Addr} {o : HO} (h : H p = none) : Same H (upd H p o) := .of fun b u e => by rw [upd_ne (ne_of_none e h)]; exact e
theorem same_upd {F H : Hp} {p : Addr} {o : HO} (h : Same F H) : Same (upd F p o) (upd H p o) := ⟨fun {b u} e n => by
  by_cases hb : b = p
  · subst hb; rw [upd_same] at e ⊢; exact e
  · rw [upd_ne hb] at e ⊢; exact h.k e n, fun {b} n => by
  by_cases hb : b = p
  · subst hb; rw [upd_same]; simp
  · rw [upd_ne hb] at n ⊢; exact h.d n⟩
theorem same_updF {F H : Hp} {D : Addr} {o : HO} (h : Same F H) (hF : F D = none) : Same F (upd H D o) := ⟨fun {a u} e n => by
  rw [upd_ne (ne_of_none e hF)]; exact h.k e n, fun {a} n => by
  by_cases hb : a = D
  · subst hb; exact absurd hF n
  · rw [upd_ne hb]; exact h.d n⟩
theorem plain_lst (a : Addr) (vs : List V) : Plain a (.lst vs) := ⟨(fun _ z => (by cases z)), (fun _ z => (by unfold LamX.CodeO at z; cases z))⟩
theorem sameH_upd {H1 H4 : Hp} {D : Addr} {o o' : HO} (h : SameH K H1 H4) (hD : H1 D = none) (h4 : H4 D = some o) (p : Plain D o) : SameH K H1 (upd H4 D o') :=
  ⟨same_updF h.s hD, fun z => (tab_off (B := [D]) (fun a ha => by
    have : a = D := by simpa using ha
    subst this; exact ⟨o, h4, p⟩) (fun a ha => upd_ne (fun z => ha (by simp [z])))).to (h.t z)⟩
theorem Same.no (fh : Same F H) {p : Addr} (h : H p = none) : F p = none := fh.free h
theorem RP.new (fh : Same F H) {p : Addr} (o : HO) (h : H p = none) : RP K F H F (upd H p o) :=
  ⟨upd_freshH h, Same.refl _, fh.trans (upd_fresh h), fun _ n => .inl n⟩
theorem RLs.fzs {F H : Hp} : ∀ {ts : List T} {vs : List V}, RTs K F ts vs → RLs K F H (ts.map L.fz) vs []
  | [], _, h => ⟨h, rfl⟩
  | t :: ts, _, ⟨v, r, e, h1, h2⟩ => ⟨v, r, [], [], e, rfl, ⟨rfl, h1⟩, RLs.fzs h2⟩
theorem RLs.len : ∀ {ls : List L} {vs : List V} {A : List Addr}, RLs K F H ls vs A → vs.length = ls.length
  | [], _, _, ⟨e, _⟩ => by subst e; rfl
  | l :: ls, _, _, ⟨v, r, B, C, e, _, _, h⟩ => by subst e; simp [RLs.len h]
theorem RTs.len : ∀ {ts : List T} {vs : List V}, RTs K F ts vs → vs.length = ts.length
  | [], _, e => by subst e; rfl
  | t :: ts, _, ⟨v, r, e, _, h⟩ => by subst e; simp [RTs.len h]
theorem Out.lst (o : Out K F H G Q) (fh : Same F H) {F1 H1 : Hp} {ls : List L} {vs : List V} {B : List Addr} {p : Addr} (r1 : RP K F H F1 H1) (g : G (.lst ls)) (h : RLs K F1 H1 ls vs B) (nd : B.Nodup) (fr : ∀ b ∈ B, F1 b = none ∧ H b = none) (hp : H1 p = none) :
    Q (.ref p) (upd H1 p (.lst vs)) := by
  have hH : H p = none := r1.hh.free hp
  have hpB : p ∉ B := fun m => h.dom p m hp
  refine o _ g (.ref p) F1 (upd H1 p (.lst vs)) (p :: B) (r1.trans (RP.new r1.fh _ hp)) ⟨p, vs, B, rfl, rfl, upd_same, h.mono (Same.refl _) (On.of (upd_fresh hp) _)⟩ (List.nodup_cons.mpr ⟨hpB, nd⟩) fun c hc => ?_
  rcases List.mem_cons.mp hc with rfl | hc
  · exact ⟨Same.no r1.fh hp, hH⟩
  · exact fr c hc
theorem Out.tup (o : Out K F H G Q) (fh : Same F H) {F1 H1 : Hp} {ls : List L} {vs : List V} {B : List Addr} {p : Addr} (r1 : RP K F H F1 H1) (g : G (.tup ls)) (h : RLs K F1 H1 ls vs B) (nd : B.Nodup) (fr : ∀ b ∈ B, F1 b = none ∧ H b = none) (hp : H1 p = none) :
    Q (.ref p) (upd H1 p (.tup vs)) := by
  have hH : H p = none := r1.hh.free hp
  have hpB : p ∉ B := fun m => h.dom p m hp
  refine o _ g (.ref p) F1 (upd H1 p (.tup vs)) (p :: B) (r1.trans (RP.new r1.fh _ hp)) ⟨p, vs, B, rfl, rfl, upd_same, h.mono (Same.refl _) (On.of (upd_fresh hp) _)⟩ (List.nodup_cons.mpr ⟨hpB, nd⟩) fun c hc => ?_
  rcases List.mem_cons.mp hc with rfl | hc
  · exact ⟨Same.no r1.fh hp, hH⟩
  · exact fr c hc
theorem Out.lstF (o : Out K F H G Q) (fh : Same F H) {ts : List T} {vs : List V} {p : Addr} (g : G (.lst (ts.map L.fz))) (h : RTs K F ts vs) (hp : H p = none) : Q (.ref p) (upd H p (.lst vs)) :=
  o.lst fh (RP.refl fh) g (RLs.fzs h) .nil (fun _ z => by cases z) hp
theorem Out.tupF (o : Out K F H G Q) (fh : Same F H) {ts : List T} {vs : List V} {p : Addr} (g : G (.fz (.tup ts))) (h : RTs K F ts vs) (hp : H p = none) : Q (.ref p) (upd H p (.tup vs)) := by
  refine o _ g (.ref p) (upd F p (.tup vs)) (upd H p (.tup vs)) [] ⟨upd_freshH hp, upd_fresh (Same.no fh hp), same_upd fh, fun a n => ?_⟩ ⟨rfl, p, vs, rfl, .inl (.inl upd_same), h.mono (upd_fresh (Same.no fh hp))⟩ .nil (fun _ z => by cases z)
  by_cases hb : a = p
  · subst hb; exact .inr hp
  · rw [upd_ne hb] at n; exact .inl n
end
theorem fz_of_all : ∀ {ls : List L}, ls.all L.isFz = true → ls = (L.trees ls).map L.fz
  | [], _ => rfl
  | l :: ls, h => by
    rw [List.all_cons, Bool.and_eq_true] at h
    cases l with
    | fz t => simp only [L.trees, L.tree, List.map_cons]; rw [← fz_of_all h.2]
    | _ => cases h.1
theorem RLs.fz_inv {K : PySem.W.Frag} {F H : Hp} : ∀ {ts : List T} {vs : List V} {A : List Addr}, RLs K F H (ts.map L.fz) vs A → A = [] ∧ RTs K F ts vs
  | [], _, _, ⟨e, eA⟩ => ⟨eA, e⟩
  | t :: ts, _, _, ⟨v, r, B, C, e, eA, ⟨eB, h1⟩, h2⟩ => by
    obtain ⟨eC, h3⟩ := RLs.fz_inv h2
    subst eB eC
    exact ⟨eA, v, r, e, h1, h3⟩
def OpG (K : PySem.W.Frag) (r : R2) (f : L → L → (L → Prop) → Prop) : Prop :=
  ∀ (F H : Hp) (x y : V) (l l' : L) (A B : List Addr) (Q : VK) (G : L → Prop), Same F H → RL K F H l x A → RL K F H l' y B → f l l' G → Out K F H G Q → r x y H Q
def rOp (f : L → L → (L → Prop) → Prop) (m n : MR) : MR := fun S Q => m S fun l _ => n S fun l' _ => f l l' fun u => Q u true
section
variable {X : Cx} {K : PySem.W.Frag}
theorem w_op {r : R2} {f : L → L → (L → Prop) → Prop} {m n : MR} (ho : OpG K r f) : ∀ σ H Q, liftR K (rOp f m n) σ H Q → tOp r (liftR K m) (liftR K n) σ H Q := fun σ H Q ⟨F, S, A, G, k, q, w⟩ => by
  refine ⟨F, S, A, _, k, q, fun l o g v F1 H1 B1 r1 h1 _ => ?_⟩
  refine ⟨F1, S, A, _, k.rp r1, g, fun l' o' g' v' F2 H2 B2 r2 h2 _ => ?_⟩
  refine ho F2 H2 v v' l l' B1 B2 Q _ r2.fh (h1.mono r2.ff (On.of r2.hh _)) h2 g' fun u gu w' F3 H3 C r3 h3 nd fr => ?_
  refine w u true gu w' F3 H3 C ((r1.trans r2).trans r3) h3 fun _ => ⟨nd, fun c hc => ⟨(fr c hc).1, ?_⟩⟩
  exact none_of_dom (r1.trans r2).dom (fr c hc).2
theorem lr_op {e : Expr} {r : R2} {f : L → L → (L → Prop) → Prop} {m n : MR} (ho : OpG K r f) (h : PE X e (tOp r (liftR K m) (liftR K n))) : PE X e (liftR K (rOp f m n)) := peW h (w_op ho)
def tsV (m : MR) : MT := fun S Q => m S fun l _ => match l with
  | .fz (.bl b) => Q b
  | _ => False
theorem w_tst {m : MR} : ∀ σ H Q, liftT K (tsV m) σ H Q → tTest (liftR K m) σ H Q := fun σ H Q ⟨F, S, A, G, k, q, w⟩ => by
  refine ⟨F, S, A, _, k, q, fun l o g v F1 H1 B1 r1 h1 _ => ?_⟩
  cases l with
  | fz t =>
    cases t with
    | bl b =>
      obtain ⟨_, rfl⟩ := h1
      exact ⟨b, rfl, w b g F1 H1 r1⟩
    | _ => exact g.elim
  | _ => exact g.elim
theorem w_tb {m : MR} : ∀ σ H Q, liftT K (tsV m) σ H Q → tB (liftR K m) σ H Q := fun σ H Q h => w_tst σ H Q h
theorem lt_cmp {e : Expr} {r : R2} {f : L → L → (L → Prop) → Prop} {m n : MR} (ho : OpG K r f) (h : PT X e (tTest (tOp r (liftR K m) (liftR K n)))) : PT X e (liftT K (tsV (rOp f m n))) :=
  ptW h fun σ H Q q => w_op ho σ H _ (w_tst σ H Q q)
theorem lt_val {e : Expr} {m : MR} (h : PT X e (tB (liftR K m))) : PT X e (liftT K (tsV m)) := ptW h w_tb
def rChain (f g : L → L → (L → Prop) → Prop) (m n p : MR) : MR := fun S Q => m S fun l _ => n S fun l' _ => f l l' fun u => match u with
  | .fz (.bl true) => p S fun l2 _ => g l' l2 fun u2 => Q u2 true
  | .fz (.bl false) => Q (.fz (.bl false)) true
  | _ => False
theorem w_chain {r r' : R2} {f g : L → L → (L → Prop) → Prop} {m n p : MR} (ho : OpG K r f) (ho' : OpG K r' g) : ∀ σ H Q, liftR K (rChain f g m n p) σ H Q → tChain r r' (liftR K m) (liftR K n) (liftR K p) σ H Q := fun σ H Q ⟨F, S, A, G, k, q, w⟩ => by
  refine ⟨F, S, A, _, k, q, fun l o gl v F1 H1 B1 r1 h1 _ => ?_⟩
  refine ⟨F1, S, A, _, k.rp r1, gl, fun l' o' g' v' F2 H2 B2 r2 h2 _ => ?_⟩
  refine ho F2 H2 v v' l l' B1 B2 _ _ r2.fh (h1.mono r2.ff (On.of r2.hh _)) h2 g' fun u gu w' F3 H3 C r3 h3 nd fr => ?_
  cases u with
  | fz t =>
    cases t with
    | bl b =>
      obtain ⟨_, rfl⟩ := h3
      refine ⟨b, rfl, ?_⟩
      cases b with
      | false =>
        rw [if_neg Bool.false_ne_true]
        exact w _ true gu (.bl false) F3 H3 [] ((r1.trans r2).trans r3) ⟨rfl, rfl⟩ own_nil
      | true =>
        rw [if_pos rfl]
        refine ⟨F3, S, A, _, ((k.rp r1).rp r2).rp r3, gu, fun l2 o2 g2 v2 F4 H4 B4 r4 h4 _ => ?_⟩
        have h2' := (h2.mono r3.ff (On.of r3.hh _)).mono r4.ff (On.of r4.hh _)
        refine ho' F4 H4 v' v2 l' l2 B2 B4 _ _ r4.fh h2' h4 g2 fun u5 gu5 w5 F5 H5 C5 r5 h5 nd5 fr5 => ?_
        refine w u5 true gu5 w5 F5 H5 C5 ((((r1.trans r2).trans r3).trans r4).trans r5) h5 fun _ => ⟨nd5, fun c hc => ⟨(fr5 c hc).1, ?_⟩⟩
        exact none_of_dom (((r1.trans r2).trans r3).trans r4).dom (fr5 c hc).2
    | _ => exact gu.elim
  | _ => exact gu.elim
def tsAnd (a b : MT) : MT := fun S Q => a S fun c => if c = true then b S Q else Q false
def tsOr (a b : MT) : MT := fun S Q => a S fun c => if c = true then Q true else b S Q
def tsNot (a : MT) : MT := fun S Q => a S fun c => Q (!c)
theorem lt_not {e : Expr} {a : MT} (h : PT X e (tNot (liftT K a))) : PT X e (liftT K (tsNot a)) := ptW h fun σ H Q ⟨F, S, A, G, k, q, w⟩ => ⟨F, S, A, _, k, q, fun b g F1 H1 r1 => w _ g F1 H1 r1⟩
theorem lw_and {e : Expr} {a b : MT} (h : PW X e (tAnd (liftT K a) (liftT K b))) : PW X e (liftT K (tsAnd a b)) := pwW h fun σ H Q ⟨F, S, A, G, k, q, w⟩ => ⟨F, S, A, _, k, q, fun c g F1 H1 r1 => by
  cases c with
  | true =>
    rw [if_pos rfl] at g ⊢
    exact ⟨F1, S, A, _, k.rp r1, g, fun d gd F2 H2 r2 => w d gd F2 H2 (r1.trans r2)⟩
  | false =>
    rw [if_neg Bool.false_ne_true] at g ⊢
    exact w _ g F1 H1 r1⟩
theorem lw_or {e : Expr} {a b : MT} (h : PW X e (tOr (liftT K a) (liftT K b))) : PW X e (liftT K (tsOr a b)) := pwW h fun σ H Q ⟨F, S, A, G, k, q, w⟩ => ⟨F, S, A, _, k, q, fun c g F1 H1 r1 => by
  cases c with
  | true =>
    rw [if_pos rfl] at g ⊢
    exact w _ g F1 H1 r1
  | false =>
    rw [if_neg Bool.false_ne_true] at g ⊢
    exact ⟨F1, S, A, _, k.rp r1, g, fun d gd F2 H2 r2 => w d gd F2 H2 (r1.trans r2)⟩⟩
def rAndV (a b : MR) : MR := fun S Q => a S fun l _ => match l with
  | .fz (.bl true) => b S Q
  | .fz (.bl false) => Q (.fz (.bl false)) true
  | _ => False
def rOrV (a b : MR) : MR := fun S Q => a S fun l _ => match l with
  | .fz (.bl true) => Q (.fz (.bl true)) true
  | .fz (.bl false) => b S Q
  | _ => False
def rNotV (a : MR) : MR := fun S Q => a S fun l _ => match l with
  | .fz (.bl c) => Q (.fz (.bl (!c))) true
  | _ => False
theorem PRw {F H F1 H1 : Hp} {Q : VK} {G : L → Bool → Prop} (w : ∀ l o, G l o → ∀ v F' H' B, RP K F H F' H' → RL K F' H' l v B → (o = true → B.Nodup ∧ ∀ b ∈ B, F' b = none ∧ H b = none) → Q v H') (r1 : RP K F H F1 H1) :
    ∀ l o, G l o → ∀ v F' H' B, RP K F1 H1 F' H' → RL K F' H' l v B → (o = true → B.Nodup ∧ ∀ b ∈ B, F' b = none ∧ H1 b = none) → Q v H' := fun l o g v F' H' B r h own =>
  w l o g v F' H' B (r1.trans r) h fun e => ⟨(own e).1, fun b hb => ⟨((own e).2 b hb).1, none_of_dom r1.dom ((own e).2 b hb).2⟩⟩
theorem lr_and {e : Expr} {a b : MR} (h : PE X e (tAndV (liftR K a) (liftR K b))) : PE X e (liftR K (rAndV a b)) := peW h fun σ H Q ⟨F, S, A, G, k, q, w⟩ => ⟨F, S, A, _, k, q, fun l o g v F1 H1 B r1 h1 _ => by
  cases l with
  | fz t =>
    cases t with
    | bl c =>
      obtain ⟨_, rfl⟩ := h1
      refine ⟨c, rfl, ?_⟩
      cases c with
      | true =>
        rw [if_pos rfl]
        exact ⟨F1, S, A, _, k.rp r1, g, PRw w r1⟩
      | false =>
        rw [if_neg Bool.false_ne_true]
        exact w _ _ g (.bl false) F1 H1 [] r1 ⟨rfl, rfl⟩ own_nil
    | _ => exact g.elim
  | _ => exact g.elim⟩
def rIf (c : MT) (a b : MR) : MR := fun S Q => c S fun d => if d = true then a S Q else b S Q
theorem lr_if {e : Expr} {c : MT} {a b : MR} (h : PE X e (tIf (liftT K c) (liftR K a) (liftR K b))) : PE X e (liftR K (rIf c a b)) := peW h fun σ H Q ⟨F, S, A, G, k, q, w⟩ => ⟨F, S, A, _, k, q, fun d g F1 H1 r1 => by
  cases d with
  | true =>
    rw [if_pos rfl] at g ⊢
    exact ⟨F1, S, A, _, k.rp r1, g, PRw w r1⟩
  | false =>
    rw [if_neg Bool.false_ne_true] at g ⊢
    exact ⟨F1, S, A, _, k.rp r1, g, PRw w r1⟩⟩
def aNil : MA := fun _ Q => Q [] true
def aCons (m : MR) (n : MA) : MA := fun S Q => m S fun l o => n S fun ls p => Q (l :: ls) (o && p)
theorem la_nil {es : List Expr} (h : PA X es tNil) : PA X es (liftA K aNil) := paW h fun σ H Q ⟨F, S, A, G, k, q, w⟩ => w _ _ q [] F H [] (RP.refl k.fh) ⟨rfl, rfl⟩ own_nil
theorem la_cons {es : List Expr} {m : MR} {n : MA} (h : PA X es (tCons (liftR K m) (liftA K n))) : PA X es (liftA K (aCons m n)) := paW h fun σ H Q ⟨F, S, A, G, k, q, w⟩ => by
  refine ⟨F, S, A, _, k, q, fun l o g v F1 H1 B1 r1 h1 o1 => ?_⟩
  refine ⟨F1, S, A, _, k.rp r1, g, fun ls p g' vs F2 H2 B2 r2 h2 o2 => ?_⟩
  have h1' := h1.mono r2.ff (On.of r2.hh B1)
  refine w _ _ g' (v :: vs) F2 H2 (B1 ++ B2) (r1.trans r2) ⟨v, vs, B1, B2, rfl, rfl, h1', h2⟩ fun e => ?_
  rw [Bool.and_eq_true] at e
  obtain ⟨n1, f1⟩ := o1 e.1
  obtain ⟨n2, f2⟩ := o2 e.2
  refine ⟨List.nodup_append.mpr ⟨n1, n2, fun a ha b hb e => ?_⟩, fun b hb => ?_⟩
  · subst e
    exact h1.dom a ha (f2 a hb).2
  · rcases List.mem_append.mp hb with hb | hb
    · exact ⟨r2.keepF h1.dom (fun a ha => (f1 a ha).1) b hb, (f1 b hb).2⟩
    · exact ⟨(f2 b hb).1, none_of_dom r1.dom (f2 b hb).2⟩
def rLst (n : MA) : MR := fun S Q => n S fun ls o => ls.length ≤ sizeLine ∧ Q (.lst ls) o
theorem lr_lst {e : Expr} {n : MA} (h : PE X e (tLst (liftA K n))) : PE X e (liftR K (rLst n)) := peW h fun σ H Q ⟨F, S, A, G, k, q, w⟩ => by
  refine ⟨F, S, A, _, k, q, fun ls o ⟨hz, g⟩ vs F1 H1 B1 r1 h1 o1 => ⟨by rw [h1.len]; exact hz, fun p hp => ?_⟩⟩
  refine w _ _ g (.ref p) F1 (upd H1 p (.lst vs)) (p :: B1) (r1.trans (RP.new r1.fh _ hp)) ⟨p, vs, B1, rfl, rfl, upd_same, h1.mono (Same.refl _) (On.of (upd_fresh hp) _)⟩ fun e => ?_
  obtain ⟨n1, f1⟩ := o1 e
  refine ⟨List.nodup_cons.mpr ⟨fun m => h1.dom p m hp, n1⟩, fun b hb => ?_⟩
  rcases List.mem_cons.mp hb with rfl | hb
  · exact ⟨Same.no r1.fh hp, none_of_dom r1.dom hp⟩
  · exact f1 b hb
def mkTup (ls : List L) : L := if ls.all L.isFz = true then .fz (.tup (L.trees ls)) else .tup ls
def rTup (n : MA) : MR := fun S Q => n S fun ls o => ls.length ≤ sizeLine ∧ Q (mkTup ls) o
theorem lr_tup {e : Expr} {n : MA} (h : PE X e (tTup (liftA K n))) : PE X e (liftR K (rTup n)) := peW h fun σ H Q ⟨F, S, A, G, k, q, w⟩ => by
  refine ⟨F, S, A, _, k, q, fun ls o ⟨hz, g⟩ vs F1 H1 B1 r1 h1 o1 => ⟨by rw [h1.len]; exact hz, fun p hp => ?_⟩⟩
  unfold mkTup at g
  split at g
  · rename_i hf
    rw [fz_of_all hf] at h1
    obtain ⟨eB, h2⟩ := RLs.fz_inv h1
    subst eB
    have fp := Same.no r1.fh hp
    refine w _ _ g (.ref p) (upd F1 p (.tup vs)) (upd H1 p (.tup vs)) [] (r1.trans ⟨upd_freshH hp, upd_fresh fp, same_upd r1.fh, fun a n => ?_⟩) ⟨rfl, p, vs, rfl, .inl (.inl upd_same), h2.mono (upd_fresh fp)⟩ own_nil
    · by_cases hb : a = p
      · subst hb; exact .inr hp
      · rw [upd_ne hb] at n; exact .inl n
  · refine w _ _ g (.ref p) F1 (upd H1 p (.tup vs)) (p :: B1) (r1.trans (RP.new r1.fh _ hp)) ⟨p, vs, B1, rfl, rfl, upd_same, h1.mono (Same.refl _) (On.of (upd_fresh hp) _)⟩ fun e => ?_
    obtain ⟨n1, f1⟩ := o1 e
    refine ⟨List.nodup_cons.mpr ⟨fun m => h1.dom p m hp, n1⟩, fun b hb => ?_⟩
    rcases List.mem_cons.mp hb with rfl | hb
    · exact ⟨Same.no r1.fh hp, none_of_dom r1.dom hp⟩
    · exact f1 b hb
end
end HTr
namespace HTr
open PySem L2
variable {EX : WX}
section
variable {K : PySem.W.Frag} {F H : Hp}
theorem CS.set : ∀ {S : S} {σ : St} {A : List Addr} {i : Nat} {l : L} {v : V} {B : List Addr}, CS K F H S σ A → RL K F H l v B → (A ++ B).Nodup → i < S.length →
    ∃ A', CS K F H (S.set i (some l)) (σ.set i (some v)) A' ∧ A'.Nodup ∧ ∀ a ∈ A', a ∈ A ∨ a ∈ B
  | none :: S, _, A, 0, l, v, B, ⟨o, r, e, h⟩, hl, nd, _ => by
    subst e
    refine ⟨B ++ A, ⟨v, r, B, A, rfl, rfl, hl, h⟩, ?_, fun a ha => (List.mem_append.mp ha).symm⟩
    exact (List.perm_append_comm.nodup_iff).mp nd
  | some l0 :: S, _, A, 0, l, v, B, ⟨w, r, B0, C, e, eA, h1, h2⟩, hl, nd, _ => by
    subst e eA
    refine ⟨B ++ C, ⟨v, r, B, C, rfl, rfl, hl, h2⟩, ?_, fun a ha => ?_⟩
    · rw [List.append_assoc] at nd
      exact (List.perm_append_comm.nodup_iff).mp (List.nodup_append.mp nd).2.1
    · rcases List.mem_append.mp ha with h | h
      · exact .inr h
      · exact .inl (List.mem_append_right _ h)
  | none :: S, _, A, i + 1, l, v, B, ⟨o, r, e, h⟩, hl, nd, hi => by
    subst e
    obtain ⟨A', h1, h2, h3⟩ := CS.set (i := i) h hl nd (by simpa using hi)
    exact ⟨A', ⟨o, _, rfl, h1⟩, h2, h3⟩
  | some l0 :: S, _, A, i + 1, l, v, B, ⟨w, r, B0, C, e, eA, h1, h2⟩, hl, nd, hi => by
    subst e eA
    have nd' : (C ++ B).Nodup := by
      rw [List.append_assoc] at nd
      exact (List.nodup_append.mp nd).2.1
    obtain ⟨A', a1, a2, a3⟩ := CS.set (i := i) h2 hl nd' (by simpa using hi)
    refine ⟨B0 ++ A', ⟨w, _, B0, A', rfl, rfl, h1, a1⟩, List.nodup_append.mpr ⟨?_, a2, fun a ha b hb e => ?_⟩, fun a ha => ?_⟩
    · rw [List.append_assoc] at nd
      exact (List.nodup_append.mp nd).1
    · subst e
      rw [List.append_assoc] at nd
      exact (List.nodup_append.mp nd).2.2 a ha a (by
        rcases a3 a hb with z | z
        · exact List.mem_append_left _ z
        · exact List.mem_append_right _ z) rfl
    · rcases List.mem_append.mp ha with z | z
      · exact .inl (List.mem_append_left _ z)
      · rcases a3 a z with y | y
        · exact .inl (List.mem_append_right _ y)
        · exact .inr y
theorem CS.take : ∀ {S : S} {σ : St} {A : List Addr} {i : Nat} {l : L}, CS K F H S σ A → S[i]? = some (some l) →
    ∃ v B A', σ[i]? = some (some v) ∧ RL K F H l v B ∧ CS K F H (S.set i none) σ A' ∧ A.Perm (A' ++ B)
  | none :: S, _, A, 0, l, _, e => by simp at e
  | none :: S, _, A, i + 1, l, ⟨o, r, eσ, h⟩, e => by
    subst eσ
    obtain ⟨v, B, A', h1, h2, h3, h4⟩ := CS.take (i := i) h (by simpa using e)
    exact ⟨v, B, A', by simpa using h1, h2, ⟨o, r, rfl, h3⟩, h4⟩
  | some l' :: S, _, A, 0, l, ⟨v, r, B, C, eσ, eA, h1, h2⟩, e => by
    subst eσ eA
    simp at e
    subst e
    exact ⟨v, B, C, by simp, h1, ⟨some v, r, rfl, h2⟩, List.perm_append_comm⟩
  | some l' :: S, _, A, i + 1, l, ⟨v, r, B, C, eσ, eA, h1, h2⟩, e => by
    subst eσ eA
    obtain ⟨w, B', A', h3, h4, h5, h6⟩ := CS.take (i := i) h2 (by simpa using e)
    exact ⟨w, B', B ++ A', by simpa using h3, h4, ⟨v, r, B, A', rfl, rfl, h1, h5⟩, by rw [List.append_assoc]; exact h6.append_left B⟩
theorem CS.drop : ∀ {S : S} {σ : St} {A : List Addr} (i : Nat), CS K F H S σ A → ∃ A', CS K F H (S.set i none) σ A' ∧ (A.Nodup → A'.Nodup) ∧ ∀ a ∈ A', a ∈ A
  | [], σ, A, i, h => ⟨A, h, id, fun _ h => h⟩
  | none :: S, _, A, 0, ⟨o, r, e, h⟩ => ⟨A, ⟨o, r, e, h⟩, id, fun _ h => h⟩
  | some l :: S, _, A, 0, ⟨v, r, B, C, e, eA, h1, h2⟩ => by
    subst eA
    exact ⟨C, ⟨some v, r, e, h2⟩, fun n => (List.nodup_append.mp n).2.1, fun a ha => List.mem_append_right _ ha⟩
  | none :: S, _, A, i + 1, ⟨o, r, e, h⟩ => by
    obtain ⟨A', h1, h2, h3⟩ := CS.drop i h
    exact ⟨A', ⟨o, r, e, h1⟩, h2, h3⟩
  | some l :: S, _, A, i + 1, ⟨v, r, B, C, e, eA, h1, h2⟩ => by
    subst eA
    obtain ⟨A', a1, a2, a3⟩ := CS.drop i h2
    refine ⟨B ++ A', ⟨v, r, B, A', e, rfl, h1, a1⟩, fun n => ?_, fun a ha => ?_⟩
    · obtain ⟨n1, n2, n3⟩ := List.nodup_append.mp n
      exact List.nodup_append.mpr ⟨n1, a2 n2, fun a ha b hb => n3 a ha b (a3 b hb)⟩
    · rcases List.mem_append.mp ha with z | z
      · exact List.mem_append_left _ z
      · exact List.mem_append_right _ (a3 a z)
end
section
variable {X : Cx} {K : PySem.W.Frag}
def sNext : MS := fun e S => e.nx S
def sSeq (m n : MS) : MS := fun e S => m { e with nx := fun S' => n e S' } S
theorem ls_next {st : List Stmt} (h : PSs X st tNext) : PSs X st (liftS K EX sNext) := pssW h fun D σ H ⟨F, S, A, k, e, q, c⟩ => c.nx F S σ H A k Step.refl q
theorem ls_seq {st : List Stmt} {m n : MS} (h : PSs X st (tSeq (liftS K EX m) (liftS K EX n))) : PSs X st (liftS K EX (sSeq m n)) := pssW h fun D σ H ⟨F, S, A, k, e, q, c⟩ =>
  ⟨F, S, A, k, _, q, ⟨fun F1 S1 σ1 H1 A1 k1 t1 q1 => ⟨F1, S1, A1, k1, e, q1, c.on t1⟩, c.bk, c.ct, c.rt, c.ex⟩⟩
def sNever : MS := fun _ _ => False
theorem ls_never {st : Stmt} (h : PS X st tNever) : PS X st (liftS K EX sNever) := psW h fun D σ H ⟨F, S, A, k, e, q, c⟩ => q.elim
theorem Ok.nodup {F H F1 H1 : Hp} {S : S} {σ : St} {A B : List Addr} (k : Ok K F H S σ A) (nB : B.Nodup) (fB : ∀ b ∈ B, F1 b = none ∧ H b = none) : (A ++ B).Nodup :=
  List.nodup_append.mpr ⟨k.nd, nB, fun a ha b hb e => by subst e; exact k.cs.dom a ha (fB a hb).2⟩
def sSet (i : Nat) (m : MR) : MS := fun e S => m S fun l o => o = true ∧ i < S.length ∧ e.nx (S.set i (some l))
theorem Ok.put {F H F1 H1 : Hp} {S : S} {σ : St} {A B : List Addr} {i : Nat} {l : L} {v : V} (k : Ok K F H S σ A) (r1 : RP K F H F1 H1) (h1 : RL K F1 H1 l v B) (nB : B.Nodup) (fB : ∀ b ∈ B, F1 b = none ∧ H b = none) (hi : i < S.length) :
    ∃ A', Ok K F1 H1 (S.set i (some l)) (σ.set i (some v)) A' ∧ Step K F H A F1 H1 A' := by
  have k1 := k.rp r1
  obtain ⟨A', c1, c2, c3⟩ := k1.cs.set h1 (k.nodup (F1 := F1) (H1 := H1) nB fB) hi
  refine ⟨A', ⟨k1.fh, c1, c2, fun a ha => ?_, k1.tb⟩, r1.step.sub fun a ha => ?_⟩
  · rcases c3 a ha with z | z
    · exact k1.nf a z
    · exact (fB a z).1
  · rcases c3 a ha with z | z
    · exact .inl z
    · exact .inr (fB a z).2
theorem ls_set {st : Stmt} {i : Nat} {m : MR} (h : PS X st (tAsg (liftR K m) (gName i))) : PS X st (liftS K EX (sSet i m)) := psW h fun D σ H ⟨F, S, A, k, e, q, c⟩ =>
  ⟨F, S, A, _, k, q, fun l o ⟨eo, hi, g⟩ v F1 H1 B r1 h1 o1 => by
    obtain ⟨nB, fB⟩ := o1 eo
    obtain ⟨A', k', t'⟩ := k.put r1 h1 nB fB hi
    exact c.nx F1 _ _ H1 A' k' t' g⟩
def sIf (t : MT) (m n : MS) : MS := fun e S => t S fun b => if b = true then m e S else n e S
theorem ls_if {st : Stmt} {t : MT} {m n : MS} (h : PS X st (tIfS (liftT K t) (liftS K EX m) (liftS K EX n))) : PS X st (liftS K EX (sIf t m n)) := psW h fun D σ H ⟨F, S, A, k, e, q, c⟩ =>
  ⟨F, S, A, _, k, q, fun b g F1 H1 r1 => by
    cases b with
    | true =>
      rw [if_pos rfl] at g ⊢
      exact ⟨F1, S, A, k.rp r1, e, g, c.on r1.step⟩
    | false =>
      rw [if_neg Bool.false_ne_true] at g ⊢
      exact ⟨F1, S, A, k.rp r1, e, g, c.on r1.step⟩⟩
def sRet (m : MR) : MS := fun e S => m S fun l o => o = true ∧ e.rt l S
theorem ls_ret {st : Stmt} {m : MR} (h : PS X st (tRet (liftR K m))) : PS X st (liftS K EX (sRet m)) := psW h fun D σ H ⟨F, S, A, k, e, q, c⟩ =>
  ⟨F, S, A, _, k, q, fun l o ⟨eo, g⟩ v F1 H1 B r1 h1 o1 => by
    obtain ⟨nB, fB⟩ := o1 eo
    have k1 := k.rp r1
    refine c.rt F1 l S σ H1 A B v k1 h1 (k.nodup (F1 := F1) (H1 := H1) nB fB) (fun b hb => (fB b hb).1) (r1.step.sub fun a ha => ?_) g
    rcases List.mem_append.mp ha with z | z
    · exact .inl z
    · exact .inr (fB a z).2⟩
def sRetV (i : Nat) : MS := fun e S => match S[i]? with
  | some (some l) => e.rt l (S.set i none)
  | _ => False
theorem ls_retV {st : Stmt} {i : Nat} (h : PS X st (tRet (tVar i))) : PS X st (liftS K EX (sRetV i)) := psW h fun D σ H ⟨F, S, A, k, e, q, c⟩ => by
  unfold sRetV at q
  split at q
  · rename_i l el
    obtain ⟨v, B, A', h1, h2, h3, h4⟩ := k.cs.take el
    have nd := h4.nodup_iff.mp k.nd
    refine ⟨v, h1, c.rt F l _ σ H A' B v ⟨k.fh, h3, (List.nodup_append.mp nd).1, fun a ha => k.nf a (h4.mem_iff.mpr (List.mem_append_left _ ha)), k.tb⟩ h2 nd (fun b hb => k.nf b (h4.mem_iff.mpr (List.mem_append_right _ hb))) (Step.refl.sub fun a ha => .inl (h4.mem_iff.mpr ha)) q⟩
  · exact q.elim
def sRetN : MS := fun e S => e.rt (.fz .non) S
def sDrop (m : MR) : MS := fun e S => m S fun _ _ => e.nx S
end
end HTr
namespace HTr
open PySem L2
variable {EX : WX}
abbrev MG := T → S → (S → Prop) → Prop
abbrev MGs := List T → S → (S → Prop) → Prop
section
variable (K : PySem.W.Frag)
def liftG (ws : List Nat) (g : MG) : TG := fun v σ H Q => ∃ F S A t G, Ok K F H S σ A ∧ RT K F t v ∧ g t S G ∧ ∀ S' σ' A', G S' → Ok K F H S' σ' A' → (∀ a ∈ A', a ∈ A) → (∀ j, j ∉ ws → σ'[j]? = σ[j]?) → σ'.length = σ.length → Q σ' H
def liftGs (ws : List Nat) (g : MGs) : TGs := fun vs σ H Q => ∃ F S A ts G, Ok K F H S σ A ∧ RTs K F ts vs ∧ g ts S G ∧ ∀ S' σ' A', G S' → Ok K F H S' σ' A' → (∀ a ∈ A', a ∈ A) → (∀ j, j ∉ ws → σ'[j]? = σ[j]?) → σ'.length = σ.length → Q σ' H
end
def gSlot (i : Nat) : MG := fun t S Q => i < S.length ∧ Q (S.set i (some (.fz t)))
def gsNil : MGs := fun ts S Q => ts = [] ∧ Q S
def gsCons (g : MG) (gs : MGs) : MGs := fun ts S Q => match ts with
  | t :: r => g t S fun S' => gs r S' Q
  | [] => False
def gTupT (gs : MGs) (n : Nat) : MG := fun t S Q => match t with
  | .tup ts => ts.length = n ∧ gs ts S Q
  | _ => False
section
variable {X : Cx} {K : PySem.W.Frag} {ws : List Nat}
theorem pgW {e : Expr} {t t' : TG} (h : PG X e t) (w : ∀ v σ H Q, t' v σ H Q → t v σ H Q) : PG X e t' := ⟨fun pins s σ H v u Q I r q => h.run pins s σ H v u Q I r (w v σ H Q q)⟩
theorem pgsW {es : List Expr} {t t' : TGs} (h : PGs X es t) (w : ∀ v σ H Q, t' v σ H Q → t v σ H Q) : PGs X es t' := ⟨fun pins s σ H v u Q I r q => h.run pins s σ H v u Q I r (w v σ H Q q)⟩
theorem Ok.setF {F H : Hp} {S : S} {σ : St} {A : List Addr} {i : Nat} {t : T} {v : V} (k : Ok K F H S σ A) (h : RT K F t v) (hi : i < S.length) : ∃ A', Ok K F H (S.set i (some (.fz t))) (σ.set i (some v)) A' ∧ ∀ a ∈ A', a ∈ A := by
  obtain ⟨A', c1, c2, c3⟩ := k.cs.set (l := .fz t) (B := []) ⟨rfl, h⟩ (by rw [List.append_nil]; exact k.nd) hi
  have s : ∀ a ∈ A', a ∈ A := fun a ha => (c3 a ha).elim id fun z => by cases z
  exact ⟨A', ⟨k.fh, c1, c2, fun a ha => k.nf a (s a ha), k.tb⟩, s⟩
theorem lg_slot {e : Expr} {i : Nat} (h : PG X e (gName i)) (hw : i ∈ ws := by decide) : PG X e (liftG K ws (gSlot i)) := pgW h fun v σ H Q ⟨F, S, A, t, G, k, r, ⟨hi, g⟩, w⟩ => by
  obtain ⟨A', k', s⟩ := k.setF r hi
  exact w _ _ A' g k' s (fun j hj => List.getElem?_set_ne (fun e : i = j => hj (by rw [← e]; exact hw))) (by simp)
theorem lgs_nil {es : List Expr} (h : PGs X es gNil) : PGs X es (liftGs K ws gsNil) := pgsW h fun v σ H Q ⟨F, S, A, ts, G, k, r, ⟨e, g⟩, w⟩ => by
  subst e
  exact ⟨r, w S σ A g k (fun _ h => h) (fun _ _ => rfl) rfl⟩
theorem lgs_cons {es : List Expr} {g : MG} {gs : MGs} (h : PGs X es (gCons (liftG K ws g) (liftGs K ws gs))) : PGs X es (liftGs K ws (gsCons g gs)) := pgsW h fun vs σ H Q ⟨F, S, A, ts, G, k, r, q, w⟩ => by
  cases ts with
  | nil => exact q.elim
  | cons t tr =>
    obtain ⟨v, vr, e, h1, h2⟩ := r
    exact ⟨v, vr, e, F, S, A, t, _, k, h1, q, fun S1 σ1 A1 g1 k1 s1 j1 l1 => ⟨F, S1, A1, tr, _, k1, h2, g1, fun S2 σ2 A2 g2 k2 s2 j2 l2 => w S2 σ2 A2 g2 k2 (fun a ha => s1 a (s2 a ha)) (fun j hj => (j2 j hj).trans (j1 j hj)) (l2.trans l1)⟩⟩
theorem lg_tup {e : Expr} {n : Nat} {gs : MGs} (h : PG X e (gTup K n (liftGs K ws gs))) : PG X e (liftG K ws (gTupT gs n)) := pgW h fun v σ H Q ⟨F, S, A, t, G, k, r, q, w⟩ => by
  cases t with
  | tup ts =>
    obtain ⟨hn, q⟩ := q
    obtain ⟨a, vs, e, hs, h2⟩ := r
    exact ⟨a, vs, e, seqT_same k.fh hs, by rw [h2.len]; exact hn, F, S, A, ts, G, k, h2, q, w⟩
  | _ => exact q.elim
def sAsg (m : MR) (g : MG) : MS := fun e S => m S fun l o => o = true ∧ g l.tree S e.nx
theorem Ok.freeze {F H F1 H1 : Hp} {S : S} {σ : St} {A B : List Addr} {l : L} {v : V} (k : Ok K F H S σ A) (r1 : RP K F H F1 H1) (h1 : RL K F1 H1 l v B) (fB : ∀ b ∈ B, F1 b = none ∧ H b = none) :
    RP K F H (mix B F1 H1) H1 ∧ Ok K (mix B F1 H1) H1 S σ A ∧ RT K (mix B F1 H1) l.tree v := by
  have rp : RP K F H (mix B F1 H1) H1 := ⟨r1.hx, r1.ff.trans (mix_same r1.fh), mix_le r1.fh, fun a n => by
    rcases mix_ne n with z | z
    · exact r1.nw a z
    · exact .inr (fB a z).2⟩
  exact ⟨rp, k.rp rp, h1.tree (mix_same r1.fh) mix_on⟩
def forL (g : MG) (b : MS) : List T → MS
  | [], e, S => e.nx S
  | t :: ts, e, S => g t S fun S1 => b { e with nx := forL g b ts e, ct := forL g b ts e, bk := e.nx } S1
theorem RTs.get {F : Hp} : ∀ {ts : List T} {vs : List V} {i : Nat} {t : T}, RTs K F ts vs → ts[i]? = some t → ∃ v, vs[i]? = some v ∧ RT K F t v
  | [], _, i, t, _, e => by simp at e
  | t0 :: ts, _, 0, t, ⟨v, r, e, h1, h2⟩, et => by
    subst e
    simp at et
    subst et
    exact ⟨v, by simp, h1⟩
  | t0 :: ts, _, i + 1, t, ⟨v, r, e, h1, h2⟩, et => by
    subst e
    obtain ⟨w, a, b⟩ := RTs.get (i := i) h2 (by simpa using et)
    exact ⟨w, by simpa using a, b⟩
theorem for_core {J : It} {ts : List T} {g : MG} {b : MS} {D : Ends} {e : ET} {F0 H0 : Hp} {A0 : List Addr} {S0 : S} {σ0 : St}
    (hgo : ∀ i F H, Same F0 F → Same F H → i < ts.length → J.go i H) (hst : ∀ i F H, Same F0 F → Same F H → ts.length = i → J.stop i H)
    (hy : ∀ i F H x H', Same F0 F → Same F H → i < ts.length → J.yld i H x H' → ∃ F' t, RP K F H F' H' ∧ ts[i]? = some t ∧ RT K F' t x)
    (k0 : Ok K F0 H0 S0 σ0 A0) (q0 : forL g b ts e S0) (c0 : Conn K EX F0 H0 A0 e D) :
    ∃ W : Nat → Nat → St → Hp → Prop, (∃ m, W 0 m σ0 H0) ∧ ∀ i m σ H, W i m σ H →
      (J.stop i H ∧ D.nx σ H) ∨ (J.go i H ∧ ∃ N : St → Hp → Prop, (∀ σ' H', N σ' H' → ∃ m', m' < m ∧ W (i + 1) m' σ' H') ∧ ∀ x H', J.yld i H x H' → liftG K ws g x σ H' fun σ2 H2 => liftS K EX b { D with nx := N, ct := N, bk := D.nx } σ2 H2) := by
  refine ⟨fun i m σ H => m = ts.length - i ∧ i ≤ ts.length ∧ ∃ F S A, Ok K F H S σ A ∧ Step K F0 H0 A0 F H A ∧ forL g b (ts.drop i) e S, ⟨ts.length, by simp, Nat.zero_le _, F0, S0, A0, k0, Step.refl, by simpa using q0⟩, ?_⟩
  rintro i m σ H ⟨rfl, hi, F, S, A, k, t, q⟩
  by_cases hlt : i < ts.length
  · refine .inr ⟨hgo i F H t.ff k.fh hlt, fun σ' H' => ∃ F' S' A', Ok K F' H' S' σ' A' ∧ Step K F0 H0 A0 F' H' A' ∧ forL g b (ts.drop (i + 1)) e S', fun σ' H' ⟨F', S', A', k', t', q'⟩ => ⟨ts.length - (i + 1), by omega, rfl, hlt, F', S', A', k', t', q'⟩, fun x H' y => ?_⟩
    obtain ⟨F', u, rp, eu, hu⟩ := hy i F H x H' t.ff k.fh hlt y
    have ed : ts.drop i = u :: ts.drop (i + 1) := by
      have z := List.getElem?_eq_some_iff.mp eu
      obtain ⟨z1, z2⟩ := z
      rw [List.drop_eq_getElem_cons z1, z2]
    rw [ed] at q
    refine ⟨F', S, A, u, _, k.rp rp, hu, q, fun S2 σ2 A2 g2 k2 s2 _ _ => ?_⟩
    have t2 : Step K F0 H0 A0 F' H' A2 := t.trans (rp.step.sub fun a ha => .inl (s2 a ha))
    exact ⟨F', S2, A2, k2, _, g2, ⟨fun F3 S3 σ3 H3 A3 k3 t3 q3 => ⟨F3, S3, A3, k3, t2.trans t3, q3⟩, (c0.on t2).nx, fun F3 S3 σ3 H3 A3 k3 t3 q3 => ⟨F3, S3, A3, k3, t2.trans t3, q3⟩, (c0.on t2).rt, (c0.on t2).ex⟩⟩
  · have e1 : i = ts.length := by omega
    subst e1
    rw [List.drop_length] at q
    exact .inl ⟨hst _ F H t.ff k.fh rfl, (c0.on t).nx F S σ H A k Step.refl q⟩
theorem SqL.uniq {H : Hp} {a : Addr} {xs ys : List V} (h : H a = some (.lst xs)) : SqL K H a ys → (K.lookup a = none) → xs = ys := fun q n => by
  rcases q with (q | ⟨o, q⟩) | ⟨o, _, _, e, _⟩
  · rw [h] at q; cases q; rfl
  · rw [h] at q; cases q
  · rw [n] at e; cases e
def rangeT (lo : Int) (n : Nat) : List T := (List.range n).map fun (i : Nat) => .int (lo + (i : Int))
def sForR1 (m : MA) (g : MG) (b : MS) : MS := fun e S => m S fun ls _ => match ls with
  | [.fz (.int j)] => (-(2 ^ 62) ≤ j ∧ j < 2 ^ 62) ∧ forL g b (rangeT 0 j.toNat) e S
  | _ => False
def sForR2 (m : MA) (g : MG) (b : MS) : MS := fun e S => m S fun ls _ => match ls with
  | [.fz (.int i), .fz (.int j)] => (-(2 ^ 62) ≤ i ∧ i < 2 ^ 62 ∧ -(2 ^ 62) ≤ j ∧ j < 2 ^ 62) ∧ forL g b (rangeT i (j - i).toNat) e S
  | _ => False
theorem RLs.atoms1 {F H : Hp} {t : T} {v : V} {vs : List V} {B : List Addr} (e : atomV t = some v) (h : RLs K F H [.fz t] vs B) : vs = [v] ∧ B = [] := by
  obtain ⟨w, r, B1, C, e1, e2, ⟨e3, h1⟩, h2⟩ := h
  obtain ⟨e4, e5⟩ := h2
  subst e3 e5 e4 e1
  exact ⟨by rw [h1.atom e], e2⟩
theorem RLs.atoms2 {F H : Hp} {t t' : T} {v v' : V} {vs : List V} {B : List Addr} (e : atomV t = some v) (e' : atomV t' = some v') (h : RLs K F H [.fz t, .fz t'] vs B) : vs = [v, v'] ∧ B = [] := by
  obtain ⟨w, r, B1, C, e1, e2, ⟨e3, h1⟩, h2⟩ := h
  obtain ⟨e4, e5⟩ := RLs.atoms1 e' h2
  subst e3 e5 e4 e1
  exact ⟨by rw [h1.atom e], e2⟩
theorem rangeT_len (lo : Int) (n : Nat) : (rangeT lo n).length = n := by simp [rangeT]
theorem rangeT_get {lo : Int} {n i : Nat} (h : i < n) : (rangeT lo n)[i]? = some (.int (lo + i)) := by simp [rangeT, h]
theorem for_rng {lo : Int} {n : Nat} {g : MG} {b : MS} {D : Ends} {e : ET} {F0 H0 : Hp} {A0 : List Addr} {S0 : S} {σ0 : St} (k0 : Ok K F0 H0 S0 σ0 A0) (q0 : forL g b (rangeT lo n) e S0) (c0 : Conn K EX F0 H0 A0 e D) :
    ∃ W : Nat → Nat → St → Hp → Prop, (∃ m, W 0 m σ0 H0) ∧ ∀ i m σ H, W i m σ H →
      ((Itr lo n).stop i H ∧ D.nx σ H) ∨ ((Itr lo n).go i H ∧ ∃ N : St → Hp → Prop, (∀ σ' H', N σ' H' → ∃ m', m' < m ∧ W (i + 1) m' σ' H') ∧ ∀ x H', (Itr lo n).yld i H x H' → liftG K ws g x σ H' fun σ2 H2 => liftS K EX b { D with nx := N, ct := N, bk := D.nx } σ2 H2) := by
  refine for_core (J := Itr lo n) (ts := rangeT lo n) (fun i F H _ _ hi => ?_) (fun i F H _ _ hi => ?_) (fun i F H x H' _ s2 hi y => ?_) k0 q0 c0
  · rw [rangeT_len] at hi; exact hi
  · rw [rangeT_len] at hi; exact Nat.le_of_eq hi
  · rw [rangeT_len] at hi
    obtain ⟨e1, e2⟩ := y
    subst e1 e2
    exact ⟨F, _, RP.refl s2, rangeT_get hi, rfl⟩
theorem ls_forR1 {st : Stmt} {m : MA} {g : MG} {b : MS} (h : PS X st (tFor (iRng1 (liftA K m)) (liftG K ws g) (liftS K EX b))) : PS X st (liftS K EX (sForR1 m g b)) := psW h fun D σ H ⟨F, S, A, k, e, q, c⟩ =>
  ⟨F, S, A, _, k, q, fun ls o q1 vs F1 H1 B r1 h1 _ => by
    split at q1
    · rename_i j
      obtain ⟨e1, e2⟩ := RLs.atoms1 (v := .int j) rfl h1
      exact ⟨j, e1, q1.1.1, q1.1.2, for_rng (k.rp r1) q1.2 (c.on r1.step)⟩
    · exact q1.elim⟩
theorem ls_forR2 {st : Stmt} {m : MA} {g : MG} {b : MS} (h : PS X st (tFor (iRng2 (liftA K m)) (liftG K ws g) (liftS K EX b))) : PS X st (liftS K EX (sForR2 m g b)) := psW h fun D σ H ⟨F, S, A, k, e, q, c⟩ =>
  ⟨F, S, A, _, k, q, fun ls o q1 vs F1 H1 B r1 h1 _ => by
    split at q1
    · rename_i i j
      obtain ⟨e1, e2⟩ := RLs.atoms2 (v := .int i) (v' := .int j) rfl rfl h1
      exact ⟨i, j, e1, q1.1, for_rng (k.rp r1) q1.2 (c.on r1.step)⟩
    · exact q1.elim⟩
end
end HTr
namespace HTr
open PySem L2
variable {EX : WX}
abbrev SpT := List L → (L → List L → Prop) → Prop
def backs : List L → S → Option (List L)
  | [], _ => some []
  | .pin a _ :: ls, some (.pin b l) :: S => if a = b then (backs ls S).map (.pin b l :: ·) else none
  | .pin _ _ :: _, _ => none
  | _ :: ls, _ :: S => backs ls S
  | _ :: _, [] => none
section
variable (K : PySem.W.Frag)
def pinV : List L → List V
  | [] => []
  | .pin a _ :: ls => .ref a :: pinV ls
  | _ :: ls => pinV ls
def spOf (sp : SpT) : Sp := fun vs H Q _ => Tb K H ∧ ∃ F ls A G, Same F H ∧ RLs K F H ls vs A ∧ A.Nodup ∧ (∀ a ∈ A, F a = none) ∧ sp ls G ∧
  ∀ r ls', G r ls' → ∀ v F' H' A' B, Same F' H' → RLs K F' H' ls' (pinV ls) A' → RL K F' H' r v B → (A' ++ B).Nodup → (∀ a ∈ A' ++ B, F' a = none) → Step K F H A F' H' (A' ++ B) → Q v H'
end
def start0 (N : Nat) (ls : List L) : S := ls.map some ++ List.replicate (N - ls.length) none
section
variable {K : PySem.W.Frag} {F H : Hp}
theorem CS.start : ∀ {ls : List L} {vs : List V} {A : List Addr} (n : Nat), RLs K F H ls vs A → CS K F H (ls.map some ++ List.replicate n none) (vs.map some ++ List.replicate n none) A
  | [], _, _, n, ⟨e1, e2⟩ => by
    subst e1 e2
    induction n with
    | zero => exact ⟨rfl, rfl⟩
    | succ n ih => exact ⟨none, _, rfl, ih⟩
  | l :: ls, _, _, n, ⟨v, r, B, C, e1, e2, h1, h2⟩ => by
    subst e1 e2
    exact ⟨v, _, B, C, rfl, rfl, h1, CS.start n h2⟩
theorem CS.start0 {ls : List L} {vs : List V} {A : List Addr} {N : List Str} (h : RLs K F H ls vs A) : CS K F H (HTr.start0 N.length ls) (L2.start N vs) A := by
  have e := h.len
  unfold HTr.start0 L2.start
  rw [e]
  exact CS.start _ h
theorem CS.backs : ∀ {ls : List L} {S : S} {σ : St} {A : List Addr} {ls' : List L}, CS K F H S σ A → backs ls S = some ls' →
    ∃ B, RLs K F H ls' (pinV ls) B ∧ (A.Nodup → B.Nodup) ∧ ∀ b ∈ B, b ∈ A
  | [], S, σ, A, ls', h, e => by
    unfold HTr.backs at e
    cases e
    exact ⟨[], ⟨rfl, rfl⟩, fun _ => .nil, fun _ z => by cases z⟩
  | l :: ls, [], σ, A, ls', h, e => by cases l <;> (unfold HTr.backs at e; cases e)
  | l :: ls, none :: S, σ, A, ls', ⟨o, r, e1, h⟩, e => by
    cases l with
    | pin a l => unfold HTr.backs at e; cases e
    | _ => unfold HTr.backs at e; exact CS.backs (ls := ls) h e
  | l :: ls, some l0 :: S, σ, A, ls', ⟨v, r, B, C, e1, e2, h1, h2⟩, e => by
    subst e1 e2
    have other : HTr.backs ls S = some ls' → ∃ B', RLs K F H ls' (pinV ls) B' ∧ ((B ++ C).Nodup → B'.Nodup) ∧ ∀ b ∈ B', b ∈ B ++ C := fun e => by
      obtain ⟨B', a1, a2, a3⟩ := CS.backs h2 e
      exact ⟨B', a1, fun nd => a2 (List.nodup_append.mp nd).2.1, fun b hb => List.mem_append_right _ (a3 b hb)⟩
    cases l with
    | pin a l =>
      cases l0 with
      | pin b l1 =>
        unfold HTr.backs at e
        split at e
        · rename_i eab
          subst eab
          cases q : HTr.backs ls S with
          | none => rw [q] at e; cases e
          | some ls2 =>
            rw [q] at e
            cases e
            obtain ⟨B', a1, a2, a3⟩ := CS.backs h2 q
            refine ⟨B ++ B', ⟨.ref a, _, B, B', rfl, rfl, by rw [← h1.1]; exact h1, a1⟩, fun nd => ?_, fun b hb => ?_⟩
            · obtain ⟨n1, n2, n3⟩ := List.nodup_append.mp nd
              exact List.nodup_append.mpr ⟨n1, a2 n2, fun a ha b hb => n3 a ha b (a3 b hb)⟩
            · rcases List.mem_append.mp hb with z | z
              · exact List.mem_append_left _ z
              · exact List.mem_append_right _ (a3 b z)
        · cases e
      | _ => unfold HTr.backs at e; cases e
    | fz t => exact other (by simpa [HTr.backs] using e)
    | tup ls0 => exact other (by simpa [HTr.backs] using e)
    | lst ls0 => exact other (by simpa [HTr.backs] using e)
    | dct tk ks ls0 => exact other (by simpa [HTr.backs] using e)
    | obj C ns ls0 => exact other (by simpa [HTr.backs] using e)
end
def endOf (ls : List L) (G : L → List L → Prop) : ET where
  nx := fun S => ∃ ls', backs ls S = some ls' ∧ G (.fz .non) ls'
  rt := fun r S => ∃ ls', backs ls S = some ls' ∧ G r ls'
theorem RL.perm_nodup {A A' B : List Addr} (h : (A ++ B).Nodup) (n : A'.Nodup) (s : ∀ a ∈ A', a ∈ A) : (A' ++ B).Nodup := by
  obtain ⟨n1, n2, n3⟩ := List.nodup_append.mp h
  exact List.nodup_append.mpr ⟨n, n2, fun a ha b hb => n3 a (s a ha) b hb⟩
theorem body_of {K : PySem.W.Frag} {sp : SpT} {m : MS} {N : List Str} (hm : ∀ ls G, sp ls G → m (endOf ls G) (start0 N.length ls)) {vs : List V} {H : Hp} {Q : VK} {E : XK} (h : spOf K sp vs H Q E) :
    liftS K EX m { nx := fun _ H' => Q .non H', rt := Q } (L2.start N vs) H := by
  obtain ⟨tb, F, ls, A, G, fh, hl, nd, nf, hsp, w⟩ := h
  refine ⟨F, _, A, ⟨fh, CS.start0 hl, nd, nf, tb⟩, endOf ls G, hm ls G hsp, ⟨fun F1 S1 σ1 H1 A1 k1 t1 q1 => ?_, fun _ _ _ _ _ _ _ z => z.elim, fun _ _ _ _ _ _ _ z => z.elim, fun F1 r S1 σ1 H1 A1 B v k1 h1 n1 f1 t1 q1 => ?_, fun _ _ _ _ _ _ _ _ _ _ _ z => z.elim⟩⟩
  · obtain ⟨ls', e, g⟩ := q1
    obtain ⟨B', a1, a2, a3⟩ := k1.cs.backs e
    refine w _ ls' g .non F1 H1 B' [] k1.fh a1 ⟨rfl, rfl⟩ (by rw [List.append_nil]; exact a2 k1.nd) (fun a ha => k1.nf a (a3 a (by simpa using ha))) (t1.sub fun a ha => .inl (a3 a (by simpa using ha)))
  · obtain ⟨ls', e, g⟩ := q1
    obtain ⟨B', a1, a2, a3⟩ := k1.cs.backs e
    refine w r ls' g v F1 H1 B' B k1.fh a1 h1 (RL.perm_nodup n1 (a2 k1.nd) a3) (fun a ha => ?_) (t1.sub fun a ha => .inl ?_)
    · rcases List.mem_append.mp ha with z | z
      · exact k1.nf a (a3 a z)
      · exact f1 a z
    · rcases List.mem_append.mp ha with z | z
      · exact List.mem_append_left _ (a3 a z)
      · exact List.mem_append_right _ z
end HTr
namespace HTr
open PySem L2
def T.isAtom : T → Bool
  | .non | .bl _ | .int _ | .str _ => true
  | _ => false
mutual
def L.flat : L → Bool
  | .fz t => t.isAtom
  | .tup ls | .lst ls | .dct _ _ ls | .obj _ _ ls => L.flats ls
  | .pin _ l => l.flat
def L.flats : List L → Bool
  | [] => true
  | l :: ls => l.flat && L.flats ls
end
section
variable {K : PySem.W.Frag} {F F' H : Hp}
theorem RT.isAtom {t : T} {v : V} (h : RT K F t v) (e : t.isAtom = true) : RT K F' t v := by
  cases t <;> first | exact h | cases e
mutual
theorem RL.flat : ∀ {l : L} {v : V} {A : List Addr}, l.flat = true → RL K F H l v A → RL K F' H l v A
  | .fz t, _, _, f, ⟨e, h⟩ => ⟨e, h.isAtom f⟩
  | .tup ls, _, _, f, ⟨a, vs, B, e, eA, q, r⟩ => ⟨a, vs, B, e, eA, q, RLs.flat f r⟩
  | .lst ls, _, _, f, ⟨a, vs, B, e, eA, q, r⟩ => ⟨a, vs, B, e, eA, q, RLs.flat f r⟩
  | .dct tk ks ls, _, _, f, ⟨a, B, e, eA, .inl ⟨et, kvs, q, ek, r⟩⟩ => ⟨a, B, e, eA, .inl ⟨et, kvs, q, ek, RLs.flat f r⟩⟩
  | .dct tk ks ls, _, _, f, ⟨a, B, e, eA, .inr ⟨et, kvs, q, ek, r⟩⟩ => ⟨a, B, e, eA, .inr ⟨et, kvs, q, ek, RLs.flat f r⟩⟩
  | .obj C ns ls, _, _, f, ⟨a, dx, vs, B, e, eA, q, d, n, r⟩ => ⟨a, dx, vs, B, e, eA, q, d, n, RLs.flat f r⟩
  | .pin a l, _, _, f, ⟨e, r⟩ => ⟨e, RL.flat (l := l) f r⟩
theorem RLs.flat : ∀ {ls : List L} {vs : List V} {A : List Addr}, L.flats ls = true → RLs K F H ls vs A → RLs K F' H ls vs A
  | [], _, _, _, h => h
  | l :: ls, _, _, f, ⟨v, r, B, C, e, eA, h1, h2⟩ => by
    have f' : (l.flat && L.flats ls) = true := f
    rw [Bool.and_eq_true] at f'
    exact ⟨v, r, B, C, e, eA, RL.flat f'.1 h1, RLs.flat f'.2 h2⟩
end
theorem RLs.app {ls ls' : List L} {vs vs' : List V} {A B : List Addr} (h : RLs K F H ls vs A) (h' : RLs K F H ls' vs' B) : RLs K F H (ls ++ ls') (vs ++ vs') (A ++ B) := by
  induction ls generalizing vs A with
  | nil => obtain ⟨e1, e2⟩ := h; subst e1 e2; exact h'
  | cons l ls ih =>
    obtain ⟨v, r, B1, C, e, eA, h1, h2⟩ := h
    subst e eA
    exact ⟨v, r ++ vs', B1, C ++ B, rfl, by rw [List.append_assoc], h1, ih h2⟩
end
def frz (ls : List L) : List L := (L.trees ls).map L.fz
def rCall (sp : SpT) (dts : List T) (m : MA) : MR := fun S Q => m S fun ls o => sp (frz ls ++ dts.map L.fz) fun r _ => (o = true ∨ r.flat = true) ∧ Q r true
section
variable {X : Cx} {K : PySem.W.Frag}
theorem pinV_fz : ∀ ts : List T, pinV (ts.map L.fz) = []
  | [] => rfl
  | t :: ts => by rw [List.map_cons]; exact pinV_fz ts
theorem call_sp {sp : SpT} {dts : List T} {dvs : List V} (hd : ∀ F, RTs K F dts dvs) {F H F1 H1 : Hp} {ls : List L} {o : Bool} {vs : List V} {B : List Addr} {Q : VK} {E : XK} {G : L → Bool → Prop}
    (w : ∀ l o, G l o → ∀ v F' H' B, RP K F H F' H' → RL K F' H' l v B → (o = true → B.Nodup ∧ ∀ b ∈ B, F' b = none ∧ H b = none) → Q v H')
    (g : sp (frz ls ++ dts.map L.fz) fun r _ => (o = true ∨ r.flat = true) ∧ G r true) (r1 : RP K F H F1 H1) (t0 : Tb K H) (h1 : RLs K F1 H1 ls vs B) (o1 : o = true → B.Nodup ∧ ∀ b ∈ B, F1 b = none ∧ H b = none) : spOf K sp (vs ++ dvs) H1 Q E := by
  have hs : RTs K (mix B F1 H1) (L.trees ls) vs := h1.tree (mix_same r1.fh) mix_on
  refine ⟨t0.on r1.hx.t, mix B F1 H1, frz ls ++ dts.map L.fz, [], _, mix_le r1.fh, ?_, .nil, fun _ z => (by cases z), g, fun r ls' q v F' H' A' C fh' hb hr nd fr st => ?_⟩
  · exact RLs.app (A := []) (B := []) (RLs.fzs hs) (RLs.fzs (hd _))
  · have hh : SameH K H1 H' := ⟨⟨fun e n => st.ch e n (by simp), fun n => st.dom _ n⟩, st.tb⟩
    have nC : C.Nodup := (List.nodup_append.mp nd).2.1
    have fC : ∀ c ∈ C, F' c = none ∧ H1 c = none := fun c hc => ⟨fr c (List.mem_append_right _ hc), (st.nA c (List.mem_append_right _ hc)).elim (fun z => by cases z) id⟩
    rcases q.1 with eo | fl
    · obtain ⟨nB, fB⟩ := o1 eo
      refine w r true q.2 v F' H' C ⟨r1.hx.trans hh, (r1.ff.trans (mix_same r1.fh)).trans st.ff, fh', fun a n => ?_⟩ hr fun _ => ⟨nC, fun c hc => ⟨(fC c hc).1, none_of_dom r1.dom (fC c hc).2⟩⟩
      rcases st.nF a n with z | z | z
      · rcases mix_ne z with y | y
        · exact r1.nw a y
        · exact .inr (fB a y).2
      · cases z
      · exact .inr (none_of_dom r1.dom z)
    · refine w r true q.2 v F1 H' C ⟨r1.hx.trans hh, r1.ff, r1.fh.trans hh.s, r1.nw⟩ (hr.flat fl) fun _ => ⟨nC, fun c hc => ⟨Same.no r1.fh (fC c hc).2, none_of_dom r1.dom (fC c hc).2⟩⟩
theorem lr_call {e : Expr} {sp : SpT} {dts : List T} {dvs : List V} {m : MA} {E : XK} (hd : ∀ F, RTs K F dts dvs) (h : PE X e (tCall (spOf K sp) dvs E (liftA K m))) : PE X e (liftR K (rCall sp dts m)) := peW h fun σ H Q ⟨F, S, A, G, k, q, w⟩ =>
  ⟨F, S, A, _, k, q, fun ls o g vs F1 H1 B r1 h1 o1 => call_sp hd w g r1 k.tb h1 o1⟩
theorem RL.obj {F H : Hp} {l : L} {v : V} {A : List Addr} {C : Nat} {ns : List Str} {ts : List T} (h : RL K F H l v A) (fh : Same F H) (e : l.tree = .obj C ns ts) :
    ∃ a dx vs, v = .ref a ∧ H a = some (.ins C dx (ns.zip vs)) ∧ ns.length = vs.length := by
  have z := h.seen fh
  rw [e] at z
  obtain ⟨a, dx, vs, e1, e2, _, e3, _⟩ := z
  exact ⟨a, dx, vs, e1, e2, e3⟩
def look {α : Type} (f : Str) : List Str → List α → Option α
  | n :: ns, v :: vs => if f = n then some v else look f ns vs
  | _, _ => none
theorem look_zip {f : Str} : ∀ {ns : List Str} {vs : List V}, (ns.zip vs).lookup f = look f ns vs
  | [], _ => rfl
  | n :: ns, [] => rfl
  | n :: ns, v :: vs => by
    rw [List.zip_cons_cons, List.lookup_cons]
    unfold look
    by_cases e : f = n
    · subst e; simp
    · have : (f == n) = false := by simpa using e
      rw [this, if_neg e]
      exact look_zip
theorem look_RTs {F : Hp} {f : Str} : ∀ {ns : List Str} {ts : List T} {vs : List V} {t : T}, RTs K F ts vs → look f ns ts = some t → ∃ v, look f ns vs = some v ∧ RT K F t v
  | n :: ns, t0 :: ts, _, t, ⟨v, r, e, h1, h2⟩, el => by
    subst e
    unfold look at el ⊢
    split at el
    · cases el
      rename_i h
      exact ⟨v, by rw [if_pos h], h1⟩
    · rename_i h
      obtain ⟨w, a, b⟩ := look_RTs h2 el
      exact ⟨w, by rw [if_neg h]; exact a, b⟩
  | [], _, _, _, _, el => by simp [look] at el
  | _ :: _, [], _, _, _, el => by simp [look] at el
theorem look_RLs {F H : Hp} {f : Str} : ∀ {ns : List Str} {ls : List L} {vs : List V} {A : List Addr} {l : L}, RLs K F H ls vs A → look f ns ls = some l → ∃ v B, look f ns vs = some v ∧ RL K F H l v B
  | n :: ns, l0 :: ls, _, _, l, ⟨v, r, B, C, e, eA, h1, h2⟩, el => by
    subst e
    unfold look at el ⊢
    split at el
    · cases el
      rename_i h
      exact ⟨v, B, by rw [if_pos h], h1⟩
    · rename_i h
      obtain ⟨w, B', a, b⟩ := look_RLs h2 el
      exact ⟨w, B', by rw [if_neg h]; exact a, b⟩
  | [], _, _, _, _, _, el => by simp [look] at el
  | _ :: _, [], _, _, _, _, el => by simp [look] at el
def rFld (C : Nat) (f : Str) (m : MR) : MR := fun S Q => m S fun l _ => match l with
  | .fz (.obj C' ns ts) => C' = C ∧ match look f ns ts with | some t => Q (.fz t) true | none => False
  | .obj C' ns ls => C' = C ∧ match look f ns ls with | some l' => Q l'.strip l'.isFz | none => False
  | _ => False
theorem own_seen {F H F0 : Hp} {l : L} {v : V} {B : List Addr} (h : RL K F H l v B) : l.isFz = true → B.Nodup ∧ ∀ b ∈ B, F b = none ∧ F0 b = none := fun e => by
  cases l with
  | fz t => obtain ⟨eB, _⟩ := h; subst eB; exact ⟨.nil, fun _ z => by cases z⟩
  | _ => cases e
theorem lr_fld {e : Expr} {C : Addr} {f : Str} {m : MR} (c : Cls K C) (n : NoAttr K C f) (h : PE X e (tFld K (liftR K m) f)) : PE X e (liftR K (rFld C f m)) := peW h fun σ H Q ⟨F, S, A, G, k, q, w⟩ =>
  ⟨F, S, A, _, k, q, fun l o g v F1 H1 B r1 h1 o1 => by
    split at g
    · rename_i C' ns ts
      obtain ⟨eC, g⟩ := g
      subst eC
      split at g
      · rename_i t et
        obtain ⟨_, a, dx, vs, ev, ha, hd, hn, hv⟩ := h1
        obtain ⟨u, hu, ru⟩ := look_RTs hv et
        exact ⟨a, C', dx, _, u, ev, r1.fh.g ha, c, n, by rw [look_zip]; exact hu, w _ _ g u F1 H1 [] r1 ⟨rfl, ru⟩ own_nil⟩
      · exact g.elim
    · rename_i C' ns ls
      obtain ⟨eC, g⟩ := g
      subst eC
      split at g
      · rename_i l' el
        obtain ⟨a, dx, vs, B', ev, eB, ha, hd, hn, hv⟩ := h1
        obtain ⟨u, B2, hu, ru⟩ := look_RLs hv el
        exact ⟨a, C', dx, _, u, ev, ha, c, n, by rw [look_zip]; exact hu, w _ _ g u F1 H1 B2 r1 ru.strip (own_seen ru)⟩
      · exact g.elim
    · exact g.elim⟩
def ixL (l l' : L) (Q : L → Bool → Prop) : Prop := match l, l' with
  | .fz (.lst ts), .fz (.int i) => match atI ts i with | some t => Q (.fz t) true | none => False
  | .fz (.tup ts), .fz (.int i) => match atI ts i with | some t => Q (.fz t) true | none => False
  | .lst ls, .fz (.int i) => match atI ls i with | some u => Q u.strip u.isFz | none => False
  | .tup ls, .fz (.int i) => match atI ls i with | some u => Q u.strip u.isFz | none => False
  | .fz (.str z), .fz (.int i) => z.length ≤ sizeLine ∧ match atI z.cps.toList i with | some c => Q (.fz (.str ⟨#[c]⟩)) true | none => False
  | _, _ => False
def rIx (m n : MR) : MR := fun S Q => m S fun l _ => n S fun l' _ => ixL l l' Q
theorem atI_RTs {F : Hp} {ts : List T} {vs : List V} {i : Int} {t : T} (h : RTs K F ts vs) (e : atI ts i = some t) : ∃ v, atI vs i = some v ∧ RT K F t v := by
  unfold atI at e ⊢
  rw [h.len]
  cases q : ixN ts.length i with
  | none => rw [q] at e; cases e
  | some j =>
    rw [q] at e
    exact h.get e
theorem RLs.get {F H : Hp} : ∀ {ls : List L} {vs : List V} {A : List Addr} {i : Nat} {l : L}, RLs K F H ls vs A → ls[i]? = some l → ∃ v B, vs[i]? = some v ∧ RL K F H l v B
  | [], _, _, i, l, _, e => by simp at e
  | l0 :: ls, _, _, 0, l, ⟨v, r, B, C, e, eA, h1, h2⟩, el => by
    subst e
    simp at el
    subst el
    exact ⟨v, B, by simp, h1⟩
  | l0 :: ls, _, _, i + 1, l, ⟨v, r, B, C, e, eA, h1, h2⟩, el => by
    subst e
    obtain ⟨w, B', a, b⟩ := RLs.get (i := i) h2 (by simpa using el)
    exact ⟨w, B', by simpa using a, b⟩
theorem atI_RLs {F H : Hp} {ls : List L} {vs : List V} {A : List Addr} {i : Int} {l : L} (h : RLs K F H ls vs A) (e : atI ls i = some l) : ∃ v B, atI vs i = some v ∧ RL K F H l v B := by
  unfold atI at e ⊢
  rw [h.len]
  cases q : ixN ls.length i with
  | none => rw [q] at e; cases e
  | some j =>
    rw [q] at e
    exact h.get e
theorem lr_ix {e : Expr} {m n : MR} (h : PE X e (tOp (L2.rIx K) (liftR K m) (liftR K n))) : PE X e (liftR K (rIx m n)) := peW h fun σ H Q ⟨F, S, A, G, k, q, w⟩ => by
  refine ⟨F, S, A, _, k, q, fun l o g v F1 H1 B1 r1 h1 _ => ?_⟩
  refine ⟨F1, S, A, _, k.rp r1, g, fun l' o' g' v' F2 H2 B2 r2 h2 _ => ?_⟩
  have h1' := h1.mono r2.ff (On.of r2.hh B1)
  have rr := r1.trans r2
  unfold ixL at g'
  split at g'
  · rename_i ts i
    obtain ⟨_, rfl⟩ := h2
    split at g'
    · rename_i t et
      obtain ⟨_, a, vs, ev, ha, hv⟩ := h1'
      obtain ⟨u, hu, ru⟩ := atI_RTs hv et
      exact .inl ⟨a, vs, i, u, ev, rfl, .inl (.inl (r2.fh.g ha)), hu, w _ _ g' u F2 H2 [] rr ⟨rfl, ru⟩ own_nil⟩
    · exact g'.elim
  · rename_i ts i
    obtain ⟨_, rfl⟩ := h2
    split at g'
    · rename_i t et
      obtain ⟨_, a, vs, ev, ha, hv⟩ := h1'
      obtain ⟨u, hu, ru⟩ := atI_RTs hv et
      exact .inr (.inl ⟨a, vs, i, u, ev, rfl, seqT_same r2.fh ha, hu, w _ _ g' u F2 H2 [] rr ⟨rfl, ru⟩ own_nil⟩)
    · exact g'.elim
  · rename_i ls i
    obtain ⟨_, rfl⟩ := h2
    split at g'
    · rename_i t et
      obtain ⟨a, vs, B', ev, eB, ha, hv⟩ := h1'
      obtain ⟨u, B3, hu, ru⟩ := atI_RLs hv et
      exact .inl ⟨a, vs, i, u, ev, rfl, .inl (.inl ha), hu, w _ _ g' u F2 H2 B3 rr ru.strip (own_seen ru)⟩
    · exact g'.elim
  · rename_i ls i
    obtain ⟨_, rfl⟩ := h2
    split at g'
    · rename_i t et
      obtain ⟨a, vs, B', ev, eB, ha, hv⟩ := h1'
      obtain ⟨u, B3, hu, ru⟩ := atI_RLs hv et
      exact .inr (.inl ⟨a, vs, i, u, ev, rfl, .inl (.inl ha), hu, w _ _ g' u F2 H2 B3 rr ru.strip (own_seen ru)⟩)
    · exact g'.elim
  · rename_i z i
    obtain ⟨_, rfl⟩ := h2
    obtain ⟨hz, g'⟩ := g'
    split at g'
    · rename_i c ec
      obtain ⟨_, rfl⟩ := h1'
      exact .inr (.inr ⟨z, i, c, rfl, rfl, hz, ec, w _ _ g' (.str ⟨#[c]⟩) F2 H2 [] rr ⟨rfl, rfl⟩ own_nil⟩)
    · exact g'.elim
  · exact g'.elim
end
end HTr
namespace HTr
open PySem L2
def wipeS (S : S) : List Nat → HTr.S
  | [] => S
  | v :: vs => (wipeS S vs).set v none
section
variable {K : PySem.W.Frag} {F H : Hp}
theorem CS.unset : ∀ {S : S} {σ : St} {A : List Addr} (i : Nat), CS K F H S σ A → ∃ A', CS K F H (S.set i none) (σ.set i none) A' ∧ (A.Nodup → A'.Nodup) ∧ ∀ a ∈ A', a ∈ A
  | [], σ, A, i, ⟨e1, e2⟩ => by
    subst e1
    exact ⟨A, ⟨rfl, e2⟩, id, fun _ h => h⟩
  | none :: S, _, A, 0, ⟨o, r, e, h⟩ => by
    subst e
    exact ⟨A, ⟨none, r, rfl, h⟩, id, fun _ h => h⟩
  | some l :: S, _, A, 0, ⟨v, r, B, C, e, eA, h1, h2⟩ => by
    subst eA e
    exact ⟨C, ⟨none, r, rfl, h2⟩, fun n => (List.nodup_append.mp n).2.1, fun a ha => List.mem_append_right _ ha⟩
  | none :: S, _, A, i + 1, ⟨o, r, e, h⟩ => by
    subst e
    obtain ⟨A', h1, h2, h3⟩ := CS.unset i h
    exact ⟨A', ⟨o, _, rfl, h1⟩, h2, h3⟩
  | some l :: S, _, A, i + 1, ⟨v, r, B, C, e, eA, h1, h2⟩ => by
    subst eA e
    obtain ⟨A', a1, a2, a3⟩ := CS.unset i h2
    refine ⟨B ++ A', ⟨v, _, B, A', rfl, rfl, h1, a1⟩, fun n => ?_, fun a ha => ?_⟩
    · obtain ⟨n1, n2, n3⟩ := List.nodup_append.mp n
      exact List.nodup_append.mpr ⟨n1, a2 n2, fun a ha b hb => n3 a ha b (a3 b hb)⟩
    · rcases List.mem_append.mp ha with z | z
      · exact List.mem_append_left _ z
      · exact List.mem_append_right _ (a3 a z)
theorem CS.wipe {S : S} {σ : St} {A : List Addr} (h : CS K F H S σ A) : ∀ vs : List Nat, ∃ A', CS K F H (wipeS S vs) (wipe σ vs) A' ∧ (A.Nodup → A'.Nodup) ∧ ∀ a ∈ A', a ∈ A
  | [] => ⟨A, h, id, fun _ h => h⟩
  | v :: vs => by
    obtain ⟨A1, a1, a2, a3⟩ := CS.wipe h vs
    obtain ⟨A2, b1, b2, b3⟩ := CS.unset v a1
    exact ⟨A2, b1, fun n => b2 (a2 n), fun a ha => a3 a (b3 a ha)⟩
theorem Ok.wipe {S : S} {σ : St} {A : List Addr} (k : Ok K F H S σ A) (vs : List Nat) : ∃ A', Ok K F H (wipeS S vs) (wipe σ vs) A' := by
  obtain ⟨A', a1, a2, a3⟩ := k.cs.wipe vs
  exact ⟨A', k.fh, a1, a2 k.nd, fun a ha => k.nf a (a3 a ha), k.tb⟩
theorem wipe_get (σ : St) : ∀ (vs : List Nat) (j : Nat), (wipe σ vs)[j]? = if j ∈ vs then (if j < σ.length then some none else none) else σ[j]?
  | [], j => by simp [wipe]
  | v :: vs, j => by
    show ((wipe σ vs).set v none)[j]? = _
    by_cases h : v = j
    · subst h
      by_cases hl : v < σ.length
      · rw [List.getElem?_set_self (by rw [wipe_length]; exact hl)]
        simp [hl]
      · rw [List.getElem?_eq_none (by rw [List.length_set, wipe_length]; omega)]
        simp [hl]
    · rw [List.getElem?_set_ne h, wipe_get σ vs j]
      have : j ≠ v := fun e => h e.symm
      simp [this]
theorem wipe_eq {σ τ : St} {vs : List Nat} (hl : τ.length = σ.length) (h : ∀ j, j ∉ vs → τ[j]? = σ[j]?) : wipe τ vs = wipe σ vs := by
  apply List.ext_getElem?
  intro j
  rw [wipe_get, wipe_get, hl]
  by_cases hj : j ∈ vs
  · rw [if_pos hj, if_pos hj]
  · rw [if_neg hj, if_neg hj, h j hj]
theorem wipe_out {σ : St} {vs : List Nat} {j : Nat} (h : j ∉ vs) : (wipe σ vs)[j]? = σ[j]? := by rw [wipe_get, if_neg h]
theorem wipe_wipe {σ : St} (vs : List Nat) : wipe (wipe σ vs) vs = wipe σ vs := wipe_eq (by rw [wipe_length]) fun j hj => wipe_out hj
end
def compL (g : MG) (c : MT) (m : MR) : List T → S → List L → (List L → Prop) → Prop
  | [], _, acc, Q => Q acc
  | t :: ts, S0, acc, Q => g t S0 fun S1 => c S1 fun b => if b = true then m S1 fun l o => o = true ∧ acc.length < sizeLine ∧ compL g c m ts S0 (acc ++ [l]) Q else compL g c m ts S0 acc Q
def itemsF : L → Option (List T)
  | .fz (.lst ts) => some ts
  | .lst ls => if ls.all L.isFz = true then some (L.trees ls) else none
  | _ => none
def itemsFT : L → Option (List T)
  | .fz (.tup ts) => some ts
  | .tup ls => if ls.all L.isFz = true then some (L.trees ls) else none
  | _ => none
section
variable {K : PySem.W.Frag} {ws : List Nat}
theorem itemsF_ok {F H : Hp} {l : L} {v : V} {A : List Addr} {ts : List T} (h : RL K F H l v A) (fh : Same F H) (e : itemsF l = some ts) : ∃ a vs, v = .ref a ∧ H a = some (.lst vs) ∧ RTs K F ts vs := by
  unfold itemsF at e
  split at e
  · cases e
    obtain ⟨_, a, vs, ev, ha, hv⟩ := h
    exact ⟨a, vs, ev, fh.g ha, hv⟩
  · rename_i ls
    split at e
    · rename_i hf
      cases e
      obtain ⟨a, vs, B, ev, _, ha, hv⟩ := h
      rw [fz_of_all hf] at hv
      exact ⟨a, vs, ev, ha, hv.fz_inv.2⟩
    · cases e
  · cases e
theorem itemsFT_ok {F H : Hp} {l : L} {v : V} {A : List Addr} {ts : List T} (h : RL K F H l v A) (fh : Same F H) (e : itemsFT l = some ts) : ∃ a vs, v = .ref a ∧ SqT K H a vs ∧ RTs K F ts vs := by
  unfold itemsFT at e
  split at e
  · cases e
    obtain ⟨_, a, vs, ev, ha, hv⟩ := h
    exact ⟨a, vs, ev, seqT_same fh ha, hv⟩
  · rename_i ls
    split at e
    · rename_i hf
      cases e
      obtain ⟨a, vs, B, ev, _, ha, hv⟩ := h
      rw [fz_of_all hf] at hv
      exact ⟨a, vs, ev, .inl (.inl ha), hv.fz_inv.2⟩
    · cases e
  · cases e
theorem comp_core {J : It} {ts : List T} {g : MG} {c : MT} {m : MR} {Q : VK} {G : L → Bool → Prop} {F0 H0 F1 H1 : Hp} {S0 : S} {σ0 : St} {A0 : List Addr} {D : Addr} {vs : List Nat} (hw : ∀ j, j ∈ ws → j ∈ vs)
    (w : ∀ l o, G l o → ∀ v F' H' B, RP K F0 H0 F' H' → RL K F' H' l v B → (o = true → B.Nodup ∧ ∀ b ∈ B, F' b = none ∧ H0 b = none) → Q v H')
    (hgo : ∀ i H, Same H1 H → i < ts.length → J.go i H) (hst : ∀ i H, Same H1 H → ts.length = i → J.stop i H)
    (hy : ∀ i F H x H', Same F1 F → Same H1 H → Same F H → i < ts.length → J.yld i H x H' → ∃ F' t, RP K F H F' H' ∧ ts[i]? = some t ∧ RT K F' t x)
    (k0 : Ok K F1 H1 S0 σ0 A0) (r0 : RP K F0 H0 F1 H1) (hD : H1 D = none) (q0 : compL g c m ts (wipeS S0 vs) [] fun ls => G (.lst ls) true) :
    ∃ W : Nat → Nat → Hp → Prop, (∃ m, W 0 m (upd H1 D (.lst []))) ∧ ∀ i mm H, W i mm H →
      (J.stop i H ∧ Q (.ref D) H) ∨ (J.go i H ∧ ∃ Nx : Hp → Prop, (∀ H', Nx H' → ∃ m', m' < mm ∧ W (i + 1) m' H') ∧ ∀ x H', J.yld i H x H' → liftG K ws g x (wipe σ0 vs) H' fun σ2 H2 => wipe σ2 vs = wipe σ0 vs ∧ liftT K c σ2 H2 fun b H3 =>
        if b = true then liftR K m σ2 H3 fun y H4 => ∃ acc, H4 D = some (.lst acc) ∧ acc.length < sizeLine ∧ Nx (upd H4 D (.lst (acc ++ [y]))) else Nx H3) := by
  refine ⟨fun i mm H => mm = ts.length - i ∧ i ≤ ts.length ∧ ∃ F accL acc B, H D = some (.lst acc) ∧ F D = none ∧ RP K F1 H1 F H ∧ RLs K F H accL acc B ∧ D ∉ B ∧ B.Nodup ∧ (∀ b ∈ B, F b = none ∧ H1 b = none) ∧ compL g c m (ts.drop i) (wipeS S0 vs) accL fun ls => G (.lst ls) true,
    ⟨ts.length, by simp, Nat.zero_le _, F1, [], [], [], upd_same, Same.no r0.fh hD, RP.new r0.fh _ hD, ⟨rfl, rfl⟩, by simp, .nil, (fun b z => by simp at z), by simpa using q0⟩, ?_⟩
  rintro i mm H ⟨rfl, hi, F, accL, acc, B, hHD, hFD, rp, hB, nDB, nB, fB, q⟩
  by_cases hlt : i < ts.length
  · refine .inr ⟨hgo i H rp.hh hlt, fun H' => ∃ F accL acc B, H' D = some (.lst acc) ∧ F D = none ∧ RP K F1 H1 F H' ∧ RLs K F H' accL acc B ∧ D ∉ B ∧ B.Nodup ∧ (∀ b ∈ B, F b = none ∧ H1 b = none) ∧ compL g c m (ts.drop (i + 1)) (wipeS S0 vs) accL fun ls => G (.lst ls) true,
      fun H' z => ⟨ts.length - (i + 1), by omega, rfl, hlt, z⟩, fun x H' y => ?_⟩
    obtain ⟨F', u, rp', eu, hu⟩ := hy i F H x H' rp.ff rp.hh rp.fh hlt y
    have ed : ts.drop i = u :: ts.drop (i + 1) := by
      obtain ⟨z1, z2⟩ := List.getElem?_eq_some_iff.mp eu
      rw [List.drop_eq_getElem_cons z1, z2]
    rw [ed] at q
    obtain ⟨A', kw⟩ := (k0.rp (rp.trans rp')).wipe vs
    refine ⟨F', _, A', u, _, kw, hu, q, fun S2 σ2 A2 g2 k2 s2 j2 l2 => ⟨?_, ?_⟩⟩
    · rw [← wipe_wipe (σ := σ0) vs]
      exact wipe_eq l2 fun j hj => j2 j fun z => hj (hw j z)
    · refine ⟨F', S2, A2, _, k2, g2, fun b gb F3 H3 r3 => ?_⟩
      have hHD3 : H3 D = some (.lst acc) := r3.hh.g (rp'.hh.g hHD)
      have hB3 : RLs K F3 H3 accL acc B := (hB.mono rp'.ff (On.of rp'.hh _)).mono r3.ff (On.of r3.hh _)
      have rr3 := (rp.trans rp').trans r3
      have hFD3 : F3 D = none := (rp'.trans r3).keepF (A := [D]) (fun a ha => by
        have : a = D := by simpa using ha
        subst this; rw [hHD]; simp) (fun a ha => by
        have : a = D := by simpa using ha
        subst this; exact hFD) D (by simp)
      have fB3 : ∀ b ∈ B, F3 b = none ∧ H1 b = none := fun b hb => ⟨(rp'.trans r3).keepF hB.dom (fun a ha => (fB a ha).1) b hb, (fB b hb).2⟩
      cases b with
      | false =>
        rw [if_neg Bool.false_ne_true] at gb
        dsimp only
        rw [if_neg Bool.false_ne_true]
        exact ⟨F3, accL, acc, B, hHD3, hFD3, rr3, hB3, nDB, nB, fB3, gb⟩
      | true =>
        rw [if_pos rfl] at gb
        dsimp only
        rw [if_pos rfl]
        refine ⟨F3, S2, A2, _, k2.rp r3, gb, fun l o ⟨eo, hz, gq⟩ y F4 H4 B' r4 h4 o4 => ?_⟩
        obtain ⟨nB', fB'⟩ := o4 eo
        have hHD4 : H4 D = some (.lst acc) := r4.hh.g hHD3
        have hB4 : RLs K F4 H4 accL acc B := hB3.mono r4.ff (On.of r4.hh _)
        have rr4 := rr3.trans r4
        have hFD4 : F4 D = none := r4.keepF (A := [D]) (fun a ha => by
          have : a = D := by simpa using ha
          subst this; rw [hHD3]; simp) (fun a ha => by
          have : a = D := by simpa using ha
          subst this; exact hFD3) D (by simp)
        have nDB' : D ∉ B' := fun z => by
          have q := (fB' D z).2
          rw [hHD3] at q
          cases q
        have nDBB : D ∉ B ++ B' := fun z => (List.mem_append.mp z).elim nDB nDB'
        have onH : ∀ C : List Addr, D ∉ C → On C H4 (upd H4 D (.lst (acc ++ [y]))) := fun C hC a ha o e _ => by
          rw [upd_ne (fun z => hC (by rw [← z]; exact ha))]
          exact e
        refine ⟨acc, hHD4, by rw [hB4.len]; exact hz, F4, accL ++ [l], acc ++ [y], B ++ B', upd_same, hFD4, ⟨sameH_upd rr4.hx hD hHD4 (plain_lst _ _), rr4.ff, same_updF rr4.fh hFD4, rr4.nw⟩, ?_, nDBB, ?_, fun b hb => ?_, gq⟩
        · have e1 := hB4.mono (Same.refl F4) (onH B nDB)
          have e2 := h4.mono (Same.refl F4) (onH B' nDB')
          have e3 : RLs K F4 (upd H4 D (.lst (acc ++ [y]))) [l] [y] B' := ⟨y, [], B', [], rfl, by simp, e2, rfl, rfl⟩
          exact RLs.app e1 e3
        · exact List.nodup_append.mpr ⟨nB, nB', fun a ha b hb e => by
            subst e
            exact hB3.dom a ha (fB' a hb).2⟩
        · rcases List.mem_append.mp hb with z | z
          · exact ⟨r4.keepF hB3.dom (fun a ha => (fB3 a ha).1) b z, (fB b z).2⟩
          · exact ⟨(fB' b z).1, none_of_dom rr3.dom (fB' b z).2⟩
  · have e1 : i = ts.length := by omega
    subst e1
    rw [List.drop_length] at q
    refine .inl ⟨hst _ H rp.hh rfl, w _ true q (.ref D) F H (D :: B) (r0.trans rp) ⟨D, acc, B, rfl, rfl, hHD, hB⟩ fun _ => ⟨List.nodup_cons.mpr ⟨nDB, nB⟩, fun b hb => ?_⟩⟩
    rcases List.mem_cons.mp hb with z | z
    · rw [z]
      exact ⟨hFD, none_of_dom r0.dom hD⟩
    · exact ⟨(fB b z).1, none_of_dom r0.dom (fB b z).2⟩
variable {X : Cx} {vs : List Nat}
def rCompR1 (it : MA) (g : MG) (c : MT) (m : MR) (vs : List Nat) : MR := fun S Q => it S fun ls _ => match ls with
  | [.fz (.int j)] => (-(2 ^ 62) ≤ j ∧ j < 2 ^ 62) ∧ compL g c m (rangeT 0 j.toNat) (wipeS S vs) [] fun ls => Q (.lst ls) true
  | _ => False
theorem list_walk {F1 H1 : Hp} {a : Addr} {us : List V} {ts : List T} (ha : H1 a = some (.lst us)) (hv : RTs K F1 ts us) :
    (∀ i H, Same H1 H → i < ts.length → (Itl K a).go i H) ∧ (∀ i H, Same H1 H → ts.length = i → (Itl K a).stop i H) ∧
    ∀ i F H x H', Same F1 F → Same H1 H → Same F H → i < ts.length → (Itl K a).yld i H x H' → ∃ F' t, RP K F H F' H' ∧ ts[i]? = some t ∧ RT K F' t x := by
  refine ⟨fun i H s hi => ?_, fun i H s hi => ⟨us, .inl (.inl (s.g ha)), by rw [hv.len]; exact Nat.le_of_eq hi⟩, fun i F H x H' s1 s2 s3 hi y => ?_⟩
  · obtain ⟨x, hx⟩ : ∃ x, ts[i]? = some x := ⟨ts[i], by simp [hi]⟩
    obtain ⟨u, hu, _⟩ := hv.get hx
    exact ⟨us, u, .inl (.inl (s.g ha)), hu⟩
  · obtain ⟨x', hx⟩ : ∃ x, ts[i]? = some x := ⟨ts[i], by simp [hi]⟩
    obtain ⟨u, hu, hr⟩ := hv.get hx
    obtain ⟨e1, y⟩ := y
    have z := y us (.inl (.inl (s2.g ha)))
    rw [hu] at z
    cases z
    subst e1
    exact ⟨F, x', RP.refl s3, hx, hr.mono s1⟩
theorem tup_walk {F1 H1 : Hp} {a : Addr} {us : List V} {ts : List T} (ha : SqT K H1 a us) (hv : RTs K F1 ts us) :
    (∀ i H, Same H1 H → i < ts.length → (Itt K a).go i H) ∧ (∀ i H, Same H1 H → ts.length = i → (Itt K a).stop i H) ∧
    ∀ i F H x H', Same F1 F → Same H1 H → Same F H → i < ts.length → (Itt K a).yld i H x H' → ∃ F' t, RP K F H F' H' ∧ ts[i]? = some t ∧ RT K F' t x := by
  refine ⟨fun i H s hi => ?_, fun i H s hi => ⟨us, seqT_same s ha, by rw [hv.len]; exact Nat.le_of_eq hi⟩, fun i F H x H' s1 s2 s3 hi y => ?_⟩
  · obtain ⟨x, hx⟩ : ∃ x, ts[i]? = some x := ⟨ts[i], by simp [hi]⟩
    obtain ⟨u, hu, _⟩ := hv.get hx
    exact ⟨us, u, seqT_same s ha, hu⟩
  · obtain ⟨x', hx⟩ : ∃ x, ts[i]? = some x := ⟨ts[i], by simp [hi]⟩
    obtain ⟨u, hu, hr⟩ := hv.get hx
    obtain ⟨e1, y⟩ := y
    have z := y us (seqT_same s2 ha)
    rw [hu] at z
    cases z
    subst e1
    exact ⟨F, x', RP.refl s3, hx, hr.mono s1⟩
theorem rng_walk {F1 H1 : Hp} (lo : Int) (n : Nat) :
    (∀ i H, Same H1 H → i < (rangeT lo n).length → (Itr lo n).go i H) ∧ (∀ i H, Same H1 H → (rangeT lo n).length = i → (Itr lo n).stop i H) ∧
    ∀ i F H x H', Same F1 F → Same H1 H → Same F H → i < (rangeT lo n).length → (Itr lo n).yld i H x H' → ∃ F' t, RP K F H F' H' ∧ (rangeT lo n)[i]? = some t ∧ RT K F' t x := by
  rw [rangeT_len]
  refine ⟨fun i H _ hi => hi, fun i H _ hi => Nat.le_of_eq hi, fun i F H x H' _ _ s3 hi y => ?_⟩
  obtain ⟨e1, e2⟩ := y
  subst e1 e2
  exact ⟨F, _, RP.refl s3, rangeT_get hi, rfl⟩
def cYes : MT := fun _ Q => Q true
theorem lt_yes {σ : St} {H : Hp} {Q : Bool → Hp → Prop} (h : liftT K cYes σ H Q) : tYes σ H Q := by
  obtain ⟨F, S, A, G, k, q, w⟩ := h
  exact w _ q F H (RP.refl k.fh)
theorem ltp_nil {es : List Expr} (h : PTs X es tYes) : PTs X es (liftT K cYes) := ⟨fun pins s σ H Q I q => h.run pins s σ H Q I (lt_yes q)⟩
end
end HTr
namespace HTr
open PySem L2
section
variable {K : PySem.W.Frag}
theorem RL.atomOf {F H : Hp} {t : T} {v u : V} {A : List Addr} (h : RL K F H (.fz t) v A) (e : atomV t = some u) : v = u := h.2.atom e
def fAdd : L → L → (L → Prop) → Prop
  | .fz (.int i), .fz (.int j), G => G (.fz (.int (i + j)))
  | .fz (.str a), .fz (.str b), G => a.length + b.length ≤ sizeLine ∧ G (.fz (.str (a ++ b)))
  | l, l', G => match itemsF l, itemsF l' with
    | some ts, some us => ts.length + us.length ≤ sizeLine ∧ G (.lst ((ts ++ us).map .fz))
    | _, _ => False
def rrAdd : R2 := fun x y H Q => (rI0 (fun i j => .int (i + j)) x y H Q ∨ (∃ i j, x = .str i ∧ y = .str j ∧ i.length + j.length ≤ sizeLine ∧ Q (.str (i ++ j)) H)) ∨ rCat x y H Q
theorem op_addA {X : Cx} : OpR X (binaryOp .Add) rrAdd := (op_add.or op_add_str).or op_cat
theorem RTs.app {F : Hp} {ts us : List T} {vs ws : List V} (h : RTs K F ts vs) (h' : RTs K F us ws) : RTs K F (ts ++ us) (vs ++ ws) := by
  induction ts generalizing vs with
  | nil => cases h; exact h'
  | cons t ts ih =>
    obtain ⟨v, r, e, h1, h2⟩ := h
    subst e
    exact ⟨v, r ++ ws, rfl, h1, ih h2⟩
theorem og_add : OpG K rrAdd fAdd := by
  intro F H x y l l' A B Q G fh h1 h2 g o
  unfold fAdd at g
  split at g
  · rename_i i j
    cases h1.atomOf (u := .int i) rfl
    cases h2.atomOf (u := .int j) rfl
    exact .inl (.inl ⟨i, j, rfl, rfl, o.atom fh g rfl⟩)
  · rename_i a b
    cases h1.atomOf (u := .str a) rfl
    cases h2.atomOf (u := .str b) rfl
    exact .inl (.inr ⟨a, b, rfl, rfl, g.1, o.atom fh g.2 rfl⟩)
  · split at g
    · rename_i ts us e1 e2
      obtain ⟨a, vs, rfl, ha, hv⟩ := itemsF_ok h1 fh e1
      obtain ⟨b, ws, rfl, hb, hw⟩ := itemsF_ok h2 fh e2
      exact .inr ⟨a, b, vs, ws, rfl, rfl, ha, hb, by rw [hv.len, hw.len]; exact g.1, fun p hp => o.lstF fh g.2 (RTs.app hv hw) hp⟩
    · exact g.elim
def fI (C : Int → Int → Prop) (g : Int → Int → Int) : L → L → (L → Prop) → Prop
  | .fz (.int i), .fz (.int j), G => C i j ∧ G (.fz (.int (g i j)))
  | _, _, _ => False
theorem og_I {C : Int → Int → Prop} {g : Int → Int → Int} : OpG K (rI C fun i j => .int (g i j)) (fI C g) := by
  intro F H x y l l' A B Q G fh h1 h2 q o
  unfold fI at q
  split at q
  · rename_i i j
    cases h1.atomOf (u := .int i) rfl
    cases h2.atomOf (u := .int j) rfl
    exact ⟨i, j, rfl, rfl, q.1, o.atom fh q.2 rfl⟩
  · exact q.elim
def fI0 (g : Int → Int → Int) : L → L → (L → Prop) → Prop
  | .fz (.int i), .fz (.int j), G => G (.fz (.int (g i j)))
  | _, _, _ => False
theorem og_I0 {g : Int → Int → Int} : OpG K (rI0 fun i j => .int (g i j)) (fI0 g) := by
  intro F H x y l l' A B Q G fh h1 h2 q o
  unfold fI0 at q
  split at q
  · rename_i i j
    cases h1.atomOf (u := .int i) rfl
    cases h2.atomOf (u := .int j) rfl
    exact ⟨i, j, rfl, rfl, o.atom fh q rfl⟩
  · exact q.elim
def fCmp (g : Int → Int → Bool) : L → L → (L → Prop) → Prop
  | .fz (.int i), .fz (.int j), G => G (.fz (.bl (g i j)))
  | _, _, _ => False
theorem og_cmp {g : Int → Int → Bool} : OpG K (rI0 fun i j => .bl (g i j)) (fCmp g) := by
  intro F H x y l l' A B Q G fh h1 h2 q o
  unfold fCmp at q
  split at q
  · rename_i i j
    cases h1.atomOf (u := .int i) rfl
    cases h2.atomOf (u := .int j) rfl
    exact ⟨i, j, rfl, rfl, o.atom fh q rfl⟩
  · exact q.elim
mutual
def T.data : T → Option PyData
  | .non => some .none
  | .bl b => some (.bool b)
  | .int i => some (.int i)
  | .str x => some (.str x)
  | .tup ts => (T.datas ts).map .tuple
  | .lst ts => (T.datas ts).map .list
  | _ => none
def T.datas : List T → Option (List PyData)
  | [] => some []
  | t :: ts => match t.data, T.datas ts with
    | some d, some ds => some (d :: ds)
    | _, _ => none
end
mutual
theorem RT.data {H : Hp} : ∀ {t : T} {v : V} {d : PyData}, RT K H t v → t.data = some d → Dp K H v d
  | .non, _, _, h, e => by cases e; cases (show _ = _ from h); exact .non
  | .bl b, _, _, h, e => by cases e; cases (show _ = _ from h); exact .bl b
  | .int i, _, _, h, e => by cases e; cases (show _ = _ from h); exact .int i
  | .str x, _, _, h, e => by cases e; cases (show _ = _ from h); exact .str x
  | .tup ts, _, _, ⟨a, vs, e1, q, r⟩, e => by
    subst e1
    unfold T.data at e
    cases e2 : T.datas ts with
    | none => rw [e2] at e; cases e
    | some ds => rw [e2] at e; cases e; exact .tup q (RTs.data r e2)
  | .lst ts, _, _, ⟨a, vs, e1, q, r⟩, e => by
    subst e1
    unfold T.data at e
    cases e2 : T.datas ts with
    | none => rw [e2] at e; cases e
    | some ds => rw [e2] at e; cases e; exact .lst (.inl (.inl q)) (RTs.data r e2)
  | .dct _ _ _, _, _, _, e => by cases e
  | .obj _ _ _, _, _, _, e => by cases e
  | .box _, _, _, _, e => by cases e
  | .scr _, _, _, _, e => by cases e
  | .dd _ _, _, _, _, e => by cases e
  | .at _ _, _, _, _, e => by cases e
theorem RTs.data {H : Hp} : ∀ {ts : List T} {vs : List V} {ds : List PyData}, RTs K H ts vs → T.datas ts = some ds → DpAll K H vs ds
  | [], _, _, h, e => by cases e; cases (show _ = _ from h); exact .nil
  | t :: ts, _, _, ⟨v, r, e1, h1, h2⟩, e => by
    subst e1
    unfold T.datas at e
    split at e
    · rename_i d ds e2 e3
      cases e
      exact .cons (RT.data h1 e2) (RTs.data h2 e3)
    · cases e
end
def eqAtom : T → T → Option Bool
  | .int i, .int j => some (decide (i = j))
  | .str a, .str b => some (decide (a = b))
  | .bl a, .bl b => some (decide (a = b))
  | .non, .non => some true
  | _, _ => none
def fEq (neg : Bool) (l l' : L) (G : L → Prop) : Prop := match eqAtom l.tree l'.tree with
  | some b => G (.fz (.bl (if neg then !b else b)))
  | none => match l.tree.data, l'.tree.data with
    | some d, some e => SeqAt.shaped d = true ∧ SeqAt.shaped e = true ∧ G (.fz (.bl (if neg then !PyData.eqv d e else PyData.eqv d e)))
    | _, _ => False
theorem eqAtom_ok {H : Hp} {t u : T} {x y : V} {b : Bool} (h1 : RT K H t x) (h2 : RT K H u y) (e : eqAtom t u = some b) : scal x y = true ∧ decide (x = y) = b := by
  unfold eqAtom at e
  split at e <;> cases e
  · rename_i i j
    cases h1.atom (u := .int i) rfl
    cases h2.atom (u := .int j) rfl
    exact ⟨rfl, by by_cases q : i = j <;> simp [q]⟩
  · rename_i i j
    cases h1.atom (u := .str i) rfl
    cases h2.atom (u := .str j) rfl
    exact ⟨rfl, by by_cases q : i = j <;> simp [q]⟩
  · rename_i i j
    cases h1.atom (u := .bl i) rfl
    cases h2.atom (u := .bl j) rfl
    exact ⟨rfl, by by_cases q : i = j <;> simp [q]⟩
  · cases h1.atom (u := .non) rfl
    cases h2.atom (u := .non) rfl
    exact ⟨rfl, by simp⟩
def rrEq (K : PySem.W.Frag) : R2 := fun x y H Q => rEq x y H Q ∨ rEqD K x y H Q
def rrNe (K : PySem.W.Frag) : R2 := fun x y H Q => rNe x y H Q ∨ rNeD K x y H Q
theorem op_eqA {X : Cx} (hu : X.A.units + 64 < cLine) : OpR X (compareOp .Eq) (rrEq X.K) := op_eq.or (op_eqD hu)
theorem op_neA {X : Cx} (hu : X.A.units + 64 < cLine) : OpR X (compareOp .NotEq) (rrNe X.K) := op_ne.or (op_neD hu)
theorem og_eq : OpG K (rrEq K) (fEq false) := by
  intro F H x y l l' A B Q G fh h1 h2 g o
  have a1 := h1.seen fh
  have a2 := h2.seen fh
  unfold fEq at g
  split at g
  · rename_i b e
    obtain ⟨e1, e2⟩ := eqAtom_ok a1 a2 e
    refine .inl ⟨e1, ?_⟩
    rw [e2]
    exact o.atom fh g rfl
  · split at g
    · rename_i d e e1 e2
      exact .inr ⟨d, e, a1.data e1, a2.data e2, g.1, g.2.1, o.atom fh g.2.2 rfl⟩
    · exact g.elim
theorem og_ne : OpG K (rrNe K) (fEq true) := by
  intro F H x y l l' A B Q G fh h1 h2 g o
  have a1 := h1.seen fh
  have a2 := h2.seen fh
  unfold fEq at g
  split at g
  · rename_i b e
    obtain ⟨e1, e2⟩ := eqAtom_ok a1 a2 e
    refine .inl ⟨e1, ?_⟩
    rw [e2]
    exact o.atom fh g rfl
  · split at g
    · rename_i d e e1 e2
      exact .inr ⟨d, e, a1.data e1, a2.data e2, g.1, g.2.1, o.atom fh g.2.2 rfl⟩
    · exact g.elim
def T.isNon : T → Bool
  | .non => true
  | _ => false
def fIsN (neg : Bool) (l l' : L) (G : L → Prop) : Prop := match l' with
  | .fz .non => G (.fz (.bl (if neg then !l.tree.isNon else l.tree.isNon)))
  | _ => False
theorem RT.isNon {H : Hp} {t : T} {x : V} (h : RT K H t x) : decide (x = .non) = t.isNon := by
  cases t <;> simp only [T.isNon]
  · cases (show _ = _ from h); rfl
  · cases (show _ = _ from h); rfl
  · cases (show _ = _ from h); rfl
  · cases (show _ = _ from h); rfl
  · obtain ⟨a, _, e, _⟩ := h; subst e; rfl
  · obtain ⟨a, _, e, _⟩ := h; subst e; rfl
  · obtain ⟨a, e, _⟩ := h; subst e; rfl
  · obtain ⟨a, _, _, e, _⟩ := h; subst e; rfl
  · obtain ⟨e, _⟩ := h; subst e; rfl
  · obtain ⟨a, e, _⟩ := h; subst e; rfl
  · obtain ⟨a, _, e, _⟩ := h; subst e; rfl
  · obtain ⟨e, _⟩ := h; subst e; rfl
theorem og_isN : OpG K (fun x y H Q => y = .non ∧ Q (.bl (decide (x = .non))) H) (fIsN false) := by
  intro F H x y l l' A B Q G fh h1 h2 g o
  unfold fIsN at g
  split at g
  · refine ⟨h2.atomOf rfl, ?_⟩
    rw [(h1.seen fh).isNon]
    exact o.atom fh g rfl
  · exact g.elim
theorem og_notN : OpG K (fun x y H Q => y = .non ∧ Q (.bl (!decide (x = .non))) H) (fIsN true) := by
  intro F H x y l l' A B Q G fh h1 h2 g o
  unfold fIsN at g
  split at g
  · refine ⟨h2.atomOf rfl, ?_⟩
    rw [(h1.seen fh).isNon]
    exact o.atom fh g rfl
  · exact g.elim
def T.isFlat : T → Bool
  | .non | .bl _ | .int _ | .str _ => true
  | _ => false
def eqFl : T → T → Bool
  | .non, .non => true
  | .bl a, .bl b => a == b
  | .bl a, .int b => (if a then 1 else 0) == b
  | .int a, .bl b => a == (if b then 1 else 0)
  | .int a, .int b => a == b
  | .str a, .str b => a == b
  | _, _ => false
def seqItems (l : L) : Option (List T) := match l.tree with
  | .lst ts => some ts
  | .tup ts => some ts
  | _ => none
def fInSeq (neg : Bool) (l l' : L) (G : L → Prop) : Prop := match seqItems l' with
  | some ts => l.tree.isFlat = true ∧ ts.all T.isFlat = true ∧ G (.fz (.bl (if neg then !(ts.any fun t => eqFl t l.tree) else ts.any fun t => eqFl t l.tree)))
  | none => False
theorem RT.flatV {H : Hp} {t : T} {x : V} (h : RT K H t x) (e : t.isFlat = true) : flatV x = true := by
  cases t <;> first | (cases (show _ = _ from h); rfl) | cases e
theorem RT.eqV {H : Hp} {t u : T} {x y : V} (h : RT K H t x) (h' : RT K H u y) (e : t.isFlat = true) (e' : u.isFlat = true) : L2.eqV x y = eqFl t u := by
  cases t <;> first | (cases (show _ = _ from h)) | cases e
  all_goals (cases u <;> first | (cases (show _ = _ from h')) | cases e')
  all_goals rfl
theorem RTs.flatV {H : Hp} : ∀ {ts : List T} {vs : List V}, RTs K H ts vs → ts.all T.isFlat = true → vs.all L2.flatV = true
  | [], _, h, _ => by cases (show _ = _ from h); rfl
  | t :: ts, _, ⟨v, r, e, h1, h2⟩, f => by
    subst e
    rw [List.all_cons, Bool.and_eq_true] at f ⊢
    exact ⟨h1.flatV f.1, RTs.flatV h2 f.2⟩
theorem RTs.inV {H : Hp} {u : T} {y : V} (hy : RT K H u y) (fy : u.isFlat = true) : ∀ {ts : List T} {vs : List V}, RTs K H ts vs → ts.all T.isFlat = true → L2.inV y vs = ts.any fun t => eqFl t u
  | [], _, h, _ => by cases (show _ = _ from h); rfl
  | t :: ts, _, ⟨v, r, e, h1, h2⟩, f => by
    subst e
    rw [List.all_cons, Bool.and_eq_true] at f
    have ih := RTs.inV hy fy h2 f.2
    unfold L2.inV at ih ⊢
    rw [List.any_cons, List.any_cons, ih, h1.eqV hy f.1 fy]
theorem og_inSeq (neg : Bool) : OpG K (rIn K neg) (fInSeq neg) := by
  intro F H x y l l' A B Q G fh h1 h2 g o
  have a1 := h1.seen fh
  have a2 := h2.seen fh
  unfold fInSeq at g
  split at g
  · rename_i ts e
    obtain ⟨f1, f2, g⟩ := g
    have fin : ∀ p vs, y = .ref p → (SqL K H p vs ∨ SqT K H p vs) → RTs K H ts vs → rIn K neg x y H Q := fun p vs e1 e2 e3 => by
      refine ⟨p, vs, e1, e2, a1.flatV f1, e3.flatV f2, ?_⟩
      rw [RTs.inV a1 f1 e3 f2]
      exact o.atom fh g rfl
    unfold seqItems at e
    split at e
    · rename_i us eu
      cases e
      rw [eu] at a2
      obtain ⟨p, vs, e1, e2, e3⟩ := a2
      exact fin p vs e1 (.inl (.inl (.inl e2))) e3
    · rename_i us eu
      cases e
      rw [eu] at a2
      obtain ⟨p, vs, e1, e2, e3⟩ := a2
      exact fin p vs e1 (.inr e2) e3
    · cases e
  · exact g.elim
def fInStr (neg : Bool) : L → L → (L → Prop) → Prop
  | .fz (.str a), .fz (.str b), G => G (.fz (.bl (if neg then !(!(Builtin.Str.occurrences b a 0 b.length 1).isEmpty) else !(Builtin.Str.occurrences b a 0 b.length 1).isEmpty)))
  | _, _, _ => False
theorem og_inStr : OpG K (fun x y H Q => ∃ i j, x = .str i ∧ y = .str j ∧ Q (.bl (!(Builtin.Str.occurrences j i 0 j.length 1).isEmpty)) H) (fInStr false) := by
  intro F H x y l l' A B Q G fh h1 h2 q o
  unfold fInStr at q
  split at q
  · rename_i i j
    cases h1.atomOf (u := .str i) rfl
    cases h2.atomOf (u := .str j) rfl
    exact ⟨i, j, rfl, rfl, o.atom fh q rfl⟩
  · exact q.elim
end
def CaG (K : PySem.W.Frag) (r : List V → Hp → VK → Prop) (f : List L → (L → Prop) → Prop) : Prop :=
  ∀ (F H : Hp) (vs : List V) (ls : List L) (B : List Addr) (Q : VK) (G : L → Prop), Same F H → RLs K F H ls vs B → f ls G → Out K F H G Q → r vs H Q
def rCa (f : List L → (L → Prop) → Prop) (m : MA) : MR := fun S Q => m S fun ls _ => f ls fun u => Q u true
section
variable {X : Cx} {K : PySem.W.Frag}
theorem w_ca {r : List V → Hp → VK → Prop} {f : List L → (L → Prop) → Prop} {m : MA} (ho : CaG K r f) : ∀ σ H Q, liftR K (rCa f m) σ H Q → tCB r (liftA K m) σ H Q := fun σ H Q ⟨F, S, A, G, k, q, w⟩ =>
  ⟨F, S, A, _, k, q, fun ls o g vs F1 H1 B1 r1 h1 _ => ho F1 H1 vs ls B1 Q _ r1.fh h1 g fun u gu w' F3 H3 C r3 h3 nd fr =>
    w u true gu w' F3 H3 C (r1.trans r3) h3 fun _ => ⟨nd, fun c hc => ⟨(fr c hc).1, none_of_dom r1.dom (fr c hc).2⟩⟩⟩
theorem lr_ca {e : Expr} {r : List V → Hp → VK → Prop} {f : List L → (L → Prop) → Prop} {m : MA} (ho : CaG K r f) (h : PE X e (tCB r (liftA K m))) : PE X e (liftR K (rCa f m)) := peW h (w_ca ho)
theorem RLs.one {F H : Hp} {l : L} {vs : List V} {B : List Addr} (h : RLs K F H [l] vs B) : ∃ v, vs = [v] ∧ RL K F H l v B := by
  obtain ⟨v, r, B1, C, e1, e2, h1, h2⟩ := h
  obtain ⟨e3, e4⟩ := h2
  subst e3 e4 e1
  rw [List.append_nil] at e2
  subst e2
  exact ⟨v, rfl, h1⟩
theorem RLs.two {F H : Hp} {l l' : L} {vs : List V} {B : List Addr} (h : RLs K F H [l, l'] vs B) : ∃ v u A C, vs = [v, u] ∧ RL K F H l v A ∧ RL K F H l' u C := by
  obtain ⟨v, r, B1, C, e1, e2, h1, h2⟩ := h
  obtain ⟨u, e3, h3⟩ := h2.one
  subst e3 e1
  exact ⟨v, u, B1, C, rfl, h1, h3⟩
def fLen (ls : List L) (G : L → Prop) : Prop := match ls with
  | [l] => match l.tree with
    | .str z => z.length ≤ sizeLine ∧ G (.fz (.int z.length))
    | .lst ts => G (.fz (.int ts.length))
    | .tup ts => G (.fz (.int ts.length))
    | _ => False
  | _ => False
def rrLen (K : PySem.W.Frag) : List V → Hp → VK → Prop := fun xs H Q => (∃ p ys, xs = [.ref p] ∧ (SqL K H p ys ∨ SqT K H p ys) ∧ Q (.int ys.length) H) ∨ ∃ z, xs = [.str z] ∧ z.length ≤ sizeLine ∧ Q (.int z.length) H
theorem ca_len {X : Cx} : CallR X (.builtin "len") (rrLen X.K) := call_len_seq.or call_len_str
theorem cg_len : CaG K (rrLen K) fLen := by
  intro F H vs ls B Q G fh h g o
  unfold fLen at g
  split at g
  · rename_i l
    obtain ⟨v, e, h1⟩ := h.one
    subst e
    have a := h1.seen fh
    split at g
    · rename_i z ez
      rw [ez] at a
      cases (show _ = _ from a)
      exact .inr ⟨z, rfl, g.1, o.atom fh g.2 rfl⟩
    · rename_i ts ez
      rw [ez] at a
      obtain ⟨p, us, rfl, e2, e3⟩ := a
      refine .inl ⟨p, us, rfl, .inl (.inl (.inl e2)), ?_⟩
      rw [e3.len]
      exact o.atom fh g rfl
    · rename_i ts ez
      rw [ez] at a
      obtain ⟨p, us, rfl, e2, e3⟩ := a
      refine .inl ⟨p, us, rfl, .inr e2, ?_⟩
      rw [e3.len]
      exact o.atom fh g rfl
    · exact g.elim
  · exact g.elim
def boolsT : List T → Option (List Bool)
  | [] => some []
  | .bl b :: ts => (boolsT ts).map (b :: ·)
  | _ :: _ => none
theorem boolsT_ok {H : Hp} : ∀ {ts : List T} {vs : List V} {bs : List Bool}, RTs K H ts vs → boolsT ts = some bs → vs = bs.map V.bl
  | [], _, _, h, e => by cases e; exact h
  | .bl b :: ts, _, _, ⟨v, r, e1, h1, h2⟩, e => by
    subst e1
    cases (show _ = _ from h1)
    unfold boolsT at e
    cases q : boolsT ts with
    | none => rw [q] at e; cases e
    | some bs => rw [q] at e; cases e; rw [boolsT_ok h2 q]; rfl
  | .non :: _, _, _, _, e => by cases e
  | .int _ :: _, _, _, _, e => by cases e
  | .str _ :: _, _, _, _, e => by cases e
  | .tup _ :: _, _, _, _, e => by cases e
  | .lst _ :: _, _, _, _, e => by cases e
  | .dct _ _ _ :: _, _, _, _, e => by cases e
  | .obj _ _ _ :: _, _, _, _, e => by cases e
  | .box _ :: _, _, _, _, e => by cases e
  | .scr _ :: _, _, _, _, e => by cases e
  | .dd _ _ :: _, _, _, _, e => by cases e
  | .at _ _ :: _, _, _, _, e => by cases e
def fBools (f : List Bool → Bool) (ls : List L) (G : L → Prop) : Prop := match ls with
  | [l] => match l.tree with
    | .lst ts => match boolsT ts with
      | some bs => G (.fz (.bl (f bs)))
      | none => False
    | _ => False
  | _ => False
theorem cg_bools (f : List Bool → Bool) : CaG K (fun vs H Q => ∃ (a : Addr) (bs : List Bool), vs = [V.ref a] ∧ SqL K H a (bs.map V.bl) ∧ Q (.bl (f bs)) H) (fBools f) := by
  intro F H vs ls B Q G fh h g o
  unfold fBools at g
  split at g
  · rename_i l
    obtain ⟨v, e, h1⟩ := h.one
    subst e
    have a := h1.seen fh
    split at g
    · rename_i ts ez
      rw [ez] at a
      obtain ⟨p, us, rfl, e2, e3⟩ := a
      split at g
      · rename_i bs eb
        have e4 := boolsT_ok e3 eb
        subst e4
        exact ⟨p, bs, rfl, .inl (.inl e2), o.atom fh g rfl⟩
      · exact g.elim
    · exact g.elim
  · exact g.elim
def fList (ls : List L) (G : L → Prop) : Prop := match ls with
  | [l] => match itemsF l, itemsFT l with
    | some ts, _ => G (.lst (ts.map .fz))
    | none, some ts => G (.lst (ts.map .fz))
    | none, none => False
  | _ => False
theorem cg_list : CaG K (fun xs H Q => ∃ p ys, xs = [.ref p] ∧ (SqL K H p ys ∨ SqT K H p ys) ∧ ∀ l, H l = none → Q (.ref l) (upd H l (.lst ys))) fList := by
  intro F H vs ls B Q G fh h g o
  unfold fList at g
  split at g
  · rename_i l
    obtain ⟨v, e, h1⟩ := h.one
    subst e
    split at g
    · rename_i ts _ e1
      obtain ⟨p, us, rfl, e2, e3⟩ := itemsF_ok h1 fh e1
      exact ⟨p, us, rfl, .inl (.inl (.inl e2)), fun q hq => o.lstF fh g e3 hq⟩
    · rename_i ts _ e1
      obtain ⟨p, us, rfl, e2, e3⟩ := itemsFT_ok h1 fh e1
      exact ⟨p, us, rfl, .inr e2, fun q hq => o.lstF fh g e3 hq⟩
    · exact g.elim
  · exact g.elim
def fTuple (ls : List L) (G : L → Prop) : Prop := match ls with
  | [l] => match itemsF l, l with
    | some ts, _ => G (.fz (.tup ts))
    | none, .fz (.tup ts) => G (.fz (.tup ts))
    | none, _ => False
  | _ => False
end
end HTr
namespace HTr
open PySem L2
variable {EX : WX}
abbrev MP := S → (L → (L → S) → Prop) → Prop
section
variable (K : PySem.W.Frag)
structure Hole (F H : Hp) (σ : St) (A : List Addr) (put : L → S) (v : V) (l : L) (B R : List Addr) : Prop where
  rl : RL K F H l v B
  pm : A.Perm (B ++ R)
  fill : ∀ F2 H2 l2 B2, Same F F2 → On R H H2 → RL K F2 H2 l2 v B2 → ∃ A2, CS K F2 H2 (put l2) σ A2 ∧ A2.Perm (B2 ++ R)
def liftP (m : MP) : TE := fun σ H Q => ∃ F S A G, Ok K F H S σ A ∧ m S G ∧ ∀ l put, G l put → ∀ v F' H' B R, RP K F H F' H' → Hole K F' H' σ A put v l B R → Q v H'
end
section
variable {K : PySem.W.Frag} {F H F' H' : Hp}
theorem Hole.rp {σ : St} {A : List Addr} {put : L → S} {v : V} {l : L} {B R : List Addr} (h : Hole K F H σ A put v l B R) (r : RP K F H F' H') : Hole K F' H' σ A put v l B R :=
  ⟨h.rl.mono r.ff (On.of r.hh _), h.pm, fun F2 H2 l2 B2 s o rl => h.fill F2 H2 l2 B2 (r.ff.trans s) (fun a ha ob e n => o a ha ob (r.hh.k e n) n) rl⟩
theorem CS.focus : ∀ {S : S} {σ : St} {A : List Addr} {i : Nat} {l : L}, CS K F H S σ A → S[i]? = some (some l) →
    ∃ v B R, σ[i]? = some (some v) ∧ Hole K F H σ A (fun l2 => S.set i (some l2)) v l B R
  | none :: S, _, A, 0, l, _, e => by simp at e
  | none :: S, _, A, i + 1, l, ⟨o, r, eσ, h⟩, e => by
    subst eσ
    obtain ⟨v, B, R, h1, h2⟩ := CS.focus (i := i) h (by simpa using e)
    exact ⟨v, B, R, by simpa using h1, h2.rl, h2.pm, fun F2 H2 l2 B2 s o rl => by
      obtain ⟨A2, a1, a2⟩ := h2.fill F2 H2 l2 B2 s o rl
      exact ⟨A2, ⟨_, _, rfl, a1⟩, a2⟩⟩
  | some l' :: S, _, A, 0, l, ⟨v, r, B, C, eσ, eA, h1, h2⟩, e => by
    subst eσ eA
    simp at e
    subst e
    exact ⟨v, B, C, by simp, h1, .refl _, fun F2 H2 l2 B2 s o rl => ⟨B2 ++ C, ⟨v, r, B2, C, rfl, rfl, rl, h2.mono s o⟩, .refl _⟩⟩
  | some l' :: S, _, A, i + 1, l, ⟨v, r, B, C, eσ, eA, h1, h2⟩, e => by
    subst eσ eA
    obtain ⟨w, B', R', h3, h4⟩ := CS.focus (i := i) h2 (by simpa using e)
    refine ⟨w, B', B ++ R', by simpa using h3, h4.rl, ?_, fun F2 H2 l2 B2 s o rl => ?_⟩
    · have z := h4.pm.append_left B
      refine z.trans ?_
      rw [← List.append_assoc, ← List.append_assoc]
      exact List.perm_append_comm.append_right R'
    · obtain ⟨A2, a1, a2⟩ := h4.fill F2 H2 l2 B2 s o.right rl
      refine ⟨B ++ A2, ⟨v, _, B, A2, rfl, rfl, h1.mono s o.left, a1⟩, ?_⟩
      refine (a2.append_left B).trans ?_
      rw [← List.append_assoc, ← List.append_assoc]
      exact List.perm_append_comm.append_right R'
theorem RLs.focus : ∀ {ls : List L} {vs : List V} {A : List Addr} {i : Nat} {l : L}, RLs K F H ls vs A → ls[i]? = some l →
    ∃ v B R, vs[i]? = some v ∧ RL K F H l v B ∧ A.Perm (B ++ R) ∧ ∀ F2 H2 l2 B2, Same F F2 → On R H H2 → RL K F2 H2 l2 v B2 → ∃ A2, RLs K F2 H2 (ls.set i l2) vs A2 ∧ A2.Perm (B2 ++ R)
  | [], _, _, i, l, _, e => by simp at e
  | l0 :: ls, _, _, 0, l, ⟨v, r, B, C, e, eA, h1, h2⟩, el => by
    subst e eA
    simp at el
    subst el
    exact ⟨v, B, C, by simp, h1, .refl _, fun F2 H2 l2 B2 s o rl => ⟨B2 ++ C, ⟨v, r, B2, C, rfl, rfl, rl, h2.mono s o⟩, .refl _⟩⟩
  | l0 :: ls, _, _, i + 1, l, ⟨v, r, B, C, e, eA, h1, h2⟩, el => by
    subst e eA
    obtain ⟨w, B', R', h3, h4, h5, h6⟩ := RLs.focus (i := i) h2 (by simpa using el)
    refine ⟨w, B', B ++ R', by simpa using h3, h4, ?_, fun F2 H2 l2 B2 s o rl => ?_⟩
    · refine (h5.append_left B).trans ?_
      rw [← List.append_assoc, ← List.append_assoc]
      exact List.perm_append_comm.append_right R'
    · obtain ⟨A2, a1, a2⟩ := h6 F2 H2 l2 B2 s o.right rl
      refine ⟨B ++ A2, ⟨v, _, B, A2, rfl, rfl, h1.mono s o.left, a1⟩, ?_⟩
      refine (a2.append_left B).trans ?_
      rw [← List.append_assoc, ← List.append_assoc]
      exact List.perm_append_comm.append_right R'
end
def pVar (i : Nat) : MP := fun S Q => match S[i]? with
  | some (some (.pin a l)) => Q l fun l2 => S.set i (some (.pin a l2))
  | some (some l) => Q l fun l2 => S.set i (some l2)
  | _ => False
def idx (f : Str) : List Str → Option Nat
  | [] => none
  | n :: ns => if f = n then some 0 else (idx f ns).map (· + 1)
def pFld (C : Nat) (f : Str) (m : MP) : MP := fun S Q => m S fun l put => match l with
  | .obj C' ns ls => C' = C ∧ match idx f ns with
    | some j => match ls[j]? with
      | some u => Q u fun l2 => put (.obj C ns (ls.set j l2))
      | none => False
    | none => False
  | _ => False
section
variable {X : Cx} {K : PySem.W.Frag}
theorem lp_var {e : Expr} {i : Nat} (h : PE X e (tVar i)) : PE X e (liftP K (pVar i)) := peW h fun σ H Q ⟨F, S, A, G, k, q, w⟩ => by
  unfold pVar at q
  split at q
  · rename_i a l el
    obtain ⟨v, B, R, h1, h2⟩ := k.cs.focus el
    refine ⟨v, h1, w l _ q v F H B R (RP.refl k.fh) ⟨h2.rl.2, h2.pm, fun F2 H2 l2 B2 s o rl => ?_⟩⟩
    exact h2.fill F2 H2 (.pin a l2) B2 s o ⟨h2.rl.1, rl⟩
  · rename_i l _ el
    obtain ⟨v, B, R, h1, h2⟩ := k.cs.focus el
    exact ⟨v, h1, w l _ q v F H B R (RP.refl k.fh) h2⟩
  · exact q.elim
theorem idx_look {f : Str} {α : Type} : ∀ {ns : List Str} {vs : List α} {j : Nat}, idx f ns = some j → look f ns vs = vs[j]?
  | [], _, _, e => by cases e
  | n :: ns, [], j, e => by simp [look]
  | n :: ns, v :: vs, j, e => by
    unfold idx at e
    unfold look
    split at e
    · rename_i h
      cases e
      rw [if_pos h]
      simp
    · rename_i h
      cases q : idx f ns with
      | none => rw [q] at e; cases e
      | some j' =>
        rw [q] at e
        cases e
        rw [if_neg h, idx_look q]
        simp
theorem lp_fld {e : Expr} {C : Addr} {f : Str} {m : MP} (c : Cls K C) (n : NoAttr K C f) (h : PE X e (tFld K (liftP K m) f)) : PE X e (liftP K (pFld C f m)) := peW h fun σ H Q ⟨F, S, A, G, k, q, w⟩ =>
  ⟨F, S, A, _, k, q, fun l put g v F1 H1 B R r1 h1 => by
    split at g
    · rename_i C' ns ls
      obtain ⟨eC, g⟩ := g
      subst eC
      split at g
      · rename_i j ej
        split at g
        · rename_i u eu
          obtain ⟨a, dx, vs, B', ev, eB, ha, hd, hn, hv⟩ := h1.rl
          subst ev
          obtain ⟨x, B2, R2, e1, e2, e3, e4⟩ := hv.focus eu
          refine ⟨a, C', dx, _, x, rfl, ha, c, n, by rw [look_zip, idx_look ej]; exact e1, w _ _ g x F1 H1 B2 (a :: dx :: R2 ++ R) r1 ⟨e2, ?_, fun F2 H2 l2 B3 s o rl => ?_⟩⟩
          · refine h1.pm.trans ?_
            rw [eB]
            have z : (a :: dx :: B').Perm (B2 ++ (a :: dx :: R2)) := by
              refine (((e3.cons dx).cons a)).trans ?_
              exact (List.perm_append_comm (l₁ := [a, dx]) (l₂ := B2)).append_right R2 |>.trans (by simp)
            exact (z.append_right R).trans (by simp)
          · have o1 : On [a, dx] H1 H2 := fun b hb => o b (by
              rcases List.mem_cons.mp hb with z | z
              · rw [z]; simp
              · have : b = dx := by simpa using z
                rw [this]; simp)
            obtain ⟨A2, a1, a2⟩ := e4 F2 H2 l2 B3 s (fun b hb => o b (by simp [hb])) rl
            obtain ⟨A3, b1, b2⟩ := h1.fill F2 H2 (.obj C' ns (ls.set j l2)) (a :: dx :: A2) s (fun b hb => o b (by simp [hb])) ⟨a, dx, vs, A2, rfl, rfl, o1 a (by simp) _ ha (by intro _ z; cases z), o1 dx (by simp) _ hd (by intro _ z; cases z), hn, a1⟩
            refine ⟨A3, b1, b2.trans ?_⟩
            have z : (a :: dx :: A2).Perm (B3 ++ (a :: dx :: R2)) := by
              refine (((a2.cons dx).cons a)).trans ?_
              exact (List.perm_append_comm (l₁ := [a, dx]) (l₂ := B3)).append_right R2 |>.trans (by simp)
            exact (z.append_right R).trans (by simp)
        · exact g.elim
      · exact g.elim
    · exact g.elim⟩
def MuG (K : PySem.W.Frag) (r : V → List V → Hp → VK → Prop) (f : L → List L → (L → L → Prop) → Prop) : Prop :=
  ∀ (F H : Hp) (v : V) (l : L) (B : List Addr) (vs : List V) (ls : List L) (C : List Addr) (Q : VK) (G : L → L → Prop), Same F H → RL K F H l v B → RLs K F H ls vs C → (B ++ C).Nodup → f l ls G →
    (∀ l2 res, G l2 res → ∀ H2 B2 u Br, (∀ a, a ∉ B → H2 a = H a) → (∀ a, H a ≠ none → H2 a ≠ none) → RL K F H2 l2 v B2 → RL K F H2 res u Br → (B2 ++ Br).Nodup → (∀ a ∈ B2 ++ Br, a ∈ B ++ C) → Q u H2) → r v vs H Q
def isLst : L → Bool
  | .lst _ => true
  | _ => false
def sMut (f : L → List L → (L → L → Prop) → Prop) (p : MP) (m : MA) : MS := fun e S => p S fun l put => isLst l = true ∧ m S fun ls o => o = true ∧ f l ls fun l2 _ => e.nx (put l2)
theorem Ok.turn {F H : Hp} {S : S} {σ : St} {A : List Addr} {put : L → HTr.S} {v : V} {l l2 : L} {B R C : List Addr} {H2 : Hp} {B2 : List Addr} (k : Ok K F H S σ A) (h : Hole K F H σ A put v l B R)
    (nC : C.Nodup) (dC : ∀ c ∈ C, c ∉ A) (fC : ∀ c ∈ C, F c = none) (e1 : ∀ a, a ∉ B → H2 a = H a) (e2 : ∀ a, H a ≠ none → H2 a ≠ none) (h2 : RL K F H2 l2 v B2) (n2 : B2.Nodup) (s2 : ∀ a ∈ B2, a ∈ B ++ C) :
    ∃ A2, Ok K F H2 (put l2) σ A2 ∧ (∀ a ∈ A2, a ∈ A ∨ a ∈ C) ∧ (∀ a o, H a = some o → a ∉ A → H2 a = some o) := by
  have nd := h.pm.nodup_iff.mp k.nd
  obtain ⟨nB, nR, nBR⟩ := List.nodup_append.mp nd
  have inA : ∀ a, a ∈ B ∨ a ∈ R → a ∈ A := fun a z => h.pm.mem_iff.mpr (List.mem_append.mpr z)
  have oR : On R H H2 := fun a ha o e _ => by rw [e1 a (fun z => nBR a z a ha rfl)]; exact e
  obtain ⟨A2, a1, a2⟩ := h.fill F H2 l2 B2 (Same.refl _) oR h2
  have sub : ∀ a ∈ A2, a ∈ A ∨ a ∈ C := fun a ha => by
    rcases List.mem_append.mp (a2.mem_iff.mp ha) with z | z
    · rcases List.mem_append.mp (s2 a z) with y | y
      · exact .inl (inA a (.inl y))
      · exact .inr y
    · exact .inl (inA a (.inr z))
  have fh2 : Same F H2 := ⟨fun {a o} e n => by
    have na : a ∉ B := fun z => by
      have := k.nf a (inA a (.inl z))
      rw [e] at this; cases this
    rw [e1 a na]
    exact k.fh.k e n, fun {a} n => e2 a (k.fh.d n)⟩
  refine ⟨A2, ⟨fh2, a1, a2.nodup_iff.mpr (List.nodup_append.mpr ⟨n2, nR, fun a ha b hb e => ?_⟩), fun a ha => ?_, k.tb.on (tab_off h.rl.plain e1).to⟩, sub, fun a o e n => ?_⟩
  · subst e
    rcases List.mem_append.mp (s2 a ha) with y | y
    · exact nBR a y a hb rfl
    · exact dC a y (inA a (.inr hb))
  · rcases sub a ha with z | z
    · exact k.nf a z
    · exact fC a z
  · rw [e1 a (fun z => n (inA a (.inl z)))]
    exact e
theorem mut_core {r : V → List V → Hp → VK → Prop} {f : L → List L → (L → L → Prop) → Prop} (mu : MuG K r f) {D : Ends} {e : ET} {F H F1 H1 F2 H2 : Hp} {S : S} {σ : St} {A : List Addr} (c : Conn K EX F H A e D) (k : Ok K F H S σ A) (r1 : RP K F H F1 H1) (r2 : RP K F1 H1 F2 H2)
    {put : L → HTr.S} {v : V} {l : L} {B R : List Addr} (h1 : Hole K F1 H1 σ A put v l B R) {ls : List L} {vs : List V} {C : List Addr} (h2 : RLs K F2 H2 ls vs C) (oC : C.Nodup ∧ ∀ b ∈ C, F2 b = none ∧ H1 b = none) (q : f l ls fun l2 _ => e.nx (put l2)) :
    r v vs H2 fun _ H3 => D.nx σ H3 := by
  have h1' := h1.rp r2
  have k2 := (k.rp r1).rp r2
  obtain ⟨nC, fC⟩ := oC
  have dC : ∀ x ∈ C, x ∉ A := fun x hx z => (k.rp r1).cs.dom x z (fC x hx).2
  have inA : ∀ a, a ∈ B → a ∈ A := fun a z => h1.pm.mem_iff.mpr (List.mem_append_left _ z)
  refine mu F2 H2 v l B vs ls C _ _ k2.fh h1'.rl h2 (List.nodup_append.mpr ⟨(List.nodup_append.mp (h1.pm.nodup_iff.mp k.nd)).1, nC, fun a ha b hb e => by subst e; exact dC a hb (inA a ha)⟩) q fun l2 res g H3 B2 u Br e1 e2 a1 a2 nn ss => ?_
  obtain ⟨A2, k3, s3, t3⟩ := k2.turn h1' nC dC (fun x hx => (fC x hx).1) e1 e2 a1 (List.nodup_append.mp nn).1 (fun a ha => ss a (List.mem_append_left _ ha))
  refine c.nx F2 _ σ H3 A2 k3 ⟨(r1.trans r2).ff, fun e n na => t3 _ _ ((r1.trans r2).hh.k e n) na, fun z => (tab_off h1'.rl.plain e1).to ((r1.trans r2).hx.t z), fun a n => e2 a ((r1.trans r2).dom a n), fun a ha => ?_, fun a n => ?_⟩ g
  · rcases s3 a ha with z | z
    · exact .inl z
    · exact .inr (none_of_dom r1.dom (fC a z).2)
  · rcases (r1.trans r2).nw a n with z | z
    · exact .inl z
    · exact .inr (.inr z)
theorem lst_ty {F H : Hp} {l : L} {v : V} {B : List Addr} (h : RL K F H l v B) (e : isLst l = true) : tyV K "list" v H := by
  cases l with
  | lst ls =>
    obtain ⟨a, vs, B', ev, _, ha, _⟩ := h
    subst ev
    exact .inl ⟨rfl, vs, .inl (.inl ha)⟩
  | _ => cases e
theorem ls_mut {st : Stmt} {r : V → List V → Hp → VK → Prop} {f : L → List L → (L → L → Prop) → Prop} {p : MP} {m : MA} (mu : MuG K r f) (h : PS X st (tDrop (tBM K "list" r (liftP K p) (liftA K m)))) : PS X st (liftS K EX (sMut f p m)) := psW h fun D σ H ⟨F, S, A, k, e, q, c⟩ =>
  ⟨F, S, A, _, k, q, fun l put ⟨il, g⟩ v F1 H1 B R r1 h1 => ⟨lst_ty h1.rl il, F1, S, A, _, k.rp r1, g, fun ls o ⟨eo, g2⟩ vs F2 H2 C r2 h2 oC => mut_core mu c k r1 r2 h1 h2 (oC eo) g2⟩⟩
def fAppend : L → List L → (L → L → Prop) → Prop
  | .lst ls, [x], G => ls.length < sizeLine ∧ G (.lst (ls ++ [x])) (.fz .non)
  | _, _, _ => False
theorem upd_off {H : Hp} {a : Addr} {o : HO} {B : List Addr} : ∀ b, b ∉ a :: B → upd H a o b = H b := fun b n => upd_ne (fun e => n (by rw [e]; simp))
theorem upd_dom {H : Hp} {a : Addr} {o : HO} : ∀ b, H b ≠ none → upd H a o b ≠ none := fun b n => by
  by_cases h : b = a
  · subst h; rw [upd_same]; simp
  · rw [upd_ne h]; exact n
theorem on_upd {H : Hp} {a : Addr} {o : HO} {B : List Addr} (h : a ∉ B) : On B H (upd H a o) := fun b hb ob e _ => by
  rw [upd_ne (fun z => h (by rw [← z]; exact hb))]
  exact e
theorem mu_append : MuG K rAppend fAppend := by
  intro F H v l B vs ls C Q G fh h1 h2 nd g w
  unfold fAppend at g
  split at g
  · rename_i ls0 x
    obtain ⟨hz, g⟩ := g
    obtain ⟨a, us, B', ev, eB, ha, hv⟩ := h1
    subst ev eB
    obtain ⟨y, ey, hy⟩ := h2.one
    subst ey
    have na : a ∉ B' ++ C := (List.nodup_cons.mp nd).1
    refine ⟨a, us, y, rfl, rfl, ha, by rw [hv.len]; exact hz, w _ _ g (upd H a (.lst (us ++ [y]))) (a :: (B' ++ C)) .non [] upd_off upd_dom ⟨a, us ++ [y], B' ++ C, rfl, rfl, upd_same, ?_⟩ ⟨rfl, rfl⟩ (by rw [List.append_nil]; exact nd) (fun b hb => by simpa using hb)⟩
    refine RLs.app (hv.mono (Same.refl _) (on_upd fun z => na (List.mem_append_left _ z))) ?_
    exact ⟨y, [], C, [], rfl, by simp, hy.mono (Same.refl _) (on_upd fun z => na (List.mem_append_right _ z)), rfl, rfl⟩
  · exact g.elim
theorem RLs.split {F H : Hp} : ∀ {ls : List L} {vs : List V} {A : List Addr} (n : Nat), RLs K F H ls vs A → ∃ A1 A2, A = A1 ++ A2 ∧ RLs K F H (ls.take n) (vs.take n) A1 ∧ RLs K F H (ls.drop n) (vs.drop n) A2
  | ls, vs, A, 0, h => ⟨[], A, rfl, ⟨rfl, rfl⟩, h⟩
  | [], _, _, n + 1, ⟨e1, e2⟩ => by subst e1 e2; exact ⟨[], [], rfl, ⟨rfl, rfl⟩, ⟨rfl, rfl⟩⟩
  | l :: ls, _, _, n + 1, ⟨v, r, B, C, e, eA, h1, h2⟩ => by
    subst e eA
    obtain ⟨A1, A2, e1, e2, e3⟩ := RLs.split n h2
    subst e1
    exact ⟨B ++ A1, A2, by rw [List.append_assoc], ⟨v, _, B, A1, rfl, rfl, h1, e2⟩, e3⟩
def putN (f : Str) : List Str → List Str
  | [] => [f]
  | n :: ns => if n = f then n :: ns else n :: putN f ns
def putX {α : Type} (f : Str) (x : α) : List Str → List α → List α
  | [], _ => [x]
  | _ :: _, [] => [x]
  | n :: ns, y :: ys => if n = f then x :: ys else y :: putX f x ns ys
theorem putF_zip (f : Str) (v : V) : ∀ (ns : List Str) (vs : List V), ns.length = vs.length → putF f v (ns.zip vs) = (putN f ns).zip (putX f v ns vs) ∧ (putN f ns).length = (putX f v ns vs).length
  | [], vs, h => by
    cases vs with
    | nil => exact ⟨rfl, rfl⟩
    | cons v vs => cases h
  | n :: ns, [], h => by cases h
  | n :: ns, w :: vs, h => by
    obtain ⟨e1, e2⟩ := putF_zip f v ns vs (by simpa using h)
    by_cases hn : n = f
    · simp [putF, putN, putX, hn]
      simpa using h
    · simp [putF, putN, putX, hn, e1, e2]
def sFld (C : Nat) (f : Str) (p : MP) (m : MR) : MS := fun e S => m S fun l o => o = true ∧ p S fun l0 put => match l0 with
  | .obj C' ns ls => C' = C ∧ ns.length < 1000 ∧ e.nx (put (.obj C (putN f ns) (putX f l ns ls)))
  | _ => False
theorem RLs.put {F H : Hp} {l : L} {v : V} {C : List Addr} (hl : RL K F H l v C) (f : Str) : ∀ {ns : List Str} {ls : List L} {vs : List V} {B : List Addr}, ns.length = vs.length → RLs K F H ls vs B → ∃ B', RLs K F H (putX f l ns ls) (putX f v ns vs) B' ∧ ((B ++ C).Nodup → B'.Nodup) ∧ ∀ b ∈ B', b ∈ B ∨ b ∈ C
  | [], ls, vs, B, hn, h => by
    cases vs with
    | nil =>
      exact ⟨C, ⟨v, [], C, [], rfl, by simp, hl, rfl, rfl⟩, fun n => (List.nodup_append.mp n).2.1, fun b hb => .inr hb⟩
    | cons v vs => cases hn
  | n :: ns, [], _, _, hn, ⟨e1, e2⟩ => by subst e1; cases hn
  | n :: ns, l0 :: ls, _, _, hn, ⟨w, r, B1, B2, e1, e2, h1, h2⟩ => by
    subst e1 e2
    by_cases hf : n = f
    · have ex : putX f l (n :: ns) (l0 :: ls) = l :: ls := by unfold putX; rw [if_pos hf]
      have ey : putX f v (n :: ns) (w :: r) = v :: r := by unfold putX; rw [if_pos hf]
      rw [ex, ey]
      refine ⟨C ++ B2, ⟨v, r, C, B2, rfl, rfl, hl, h2⟩, fun nd => ?_, fun b hb => ?_⟩
      · rw [List.append_assoc] at nd
        exact (List.perm_append_comm.nodup_iff).mp (List.nodup_append.mp nd).2.1
      · rcases List.mem_append.mp hb with z | z
        · exact .inr z
        · exact .inl (List.mem_append_right _ z)
    · have ex : putX f l (n :: ns) (l0 :: ls) = l0 :: putX f l ns ls := by conv => lhs; unfold putX; rw [if_neg hf]
      have ey : putX f v (n :: ns) (w :: r) = w :: putX f v ns r := by conv => lhs; unfold putX; rw [if_neg hf]
      rw [ex, ey]
      obtain ⟨B', a1, a2, a3⟩ := RLs.put hl f (ns := ns) (by simpa using hn) h2
      refine ⟨B1 ++ B', ⟨w, _, B1, B', rfl, rfl, h1, a1⟩, fun nd => ?_, fun b hb => ?_⟩
      · rw [List.append_assoc] at nd
        obtain ⟨n1, n2, n3⟩ := List.nodup_append.mp nd
        refine List.nodup_append.mpr ⟨n1, a2 n2, fun a ha b hb e => ?_⟩
        subst e
        exact n3 a ha a (List.mem_append.mpr (a3 a hb)) rfl
      · rcases List.mem_append.mp hb with z | z
        · exact .inl (List.mem_append_left _ z)
        · rcases a3 b z with y | y
          · exact .inl (List.mem_append_right _ y)
          · exact .inr y
theorem ls_fld {st : Stmt} {C : Addr} {f : Str} {p : MP} {m : MR} (cl : Cls K C) (n : NoAttr K C f) (h : PS X st (L2.sFld K (liftP K p) (liftR K m) f)) : PS X st (liftS K EX (sFld C f p m)) := psW h fun D σ H ⟨F, S, A, k, e, q, c⟩ =>
  ⟨F, S, A, _, k, q, fun l o ⟨eo, g⟩ y F1 H1 Cc r1 hl oC => ⟨F1, S, A, _, k.rp r1, g, fun l0 put g v F2 H2 B R r2 h0 => by
    obtain ⟨nC, fC⟩ := oC eo
    split at g
    · rename_i C' ns ls
      obtain ⟨eC, hz, g⟩ := g
      subst eC
      obtain ⟨a, dx, vs, B', ev, eB, ha, hd, hn, hv⟩ := h0.rl
      subst ev eB
      obtain ⟨z1, z2⟩ := putF_zip f y ns vs hn
      refine ⟨a, C', dx, _, rfl, ha, cl, n, by rw [List.length_zip, ← hn]; omega, ?_⟩
      rw [z1]
      have k2 := (k.rp r1).rp r2
      have dCA : ∀ x ∈ Cc, x ∉ A := fun x hx z => k.cs.dom x z (fC x hx).2
      have inA : ∀ b, b ∈ a :: dx :: B' → b ∈ A := fun b z => h0.pm.mem_iff.mpr (List.mem_append_left _ z)
      have ndB : (a :: dx :: B').Nodup := (List.nodup_append.mp (h0.pm.nodup_iff.mp k.nd)).1
      have ndBC : (a :: dx :: B' ++ Cc).Nodup := List.nodup_append.mpr ⟨ndB, nC, fun x hx b hb e => by subst e; exact dCA x hb (inA x hx)⟩
      have na : a ∉ dx :: (B' ++ Cc) := (List.nodup_cons.mp ndBC).1
      have hl2 : RL K F2 H2 l y Cc := hl.mono r2.ff (On.of r2.hh _)
      have off : ∀ E : List Addr, (∀ b ∈ E, b ∈ B' ++ Cc) → On E H2 (upd H2 a (.ins C' dx ((putN f ns).zip (putX f y ns vs)))) := fun E hE => on_upd fun z => na (List.mem_cons_of_mem _ (hE a z))
      obtain ⟨B2, b1, b2, b3⟩ := RLs.put (hl2.mono (Same.refl _) (off Cc fun b hb => List.mem_append_right _ hb)) f hn (hv.mono (Same.refl _) (off B' fun b hb => List.mem_append_left _ hb))
      have nB2 : B2.Nodup := b2 (List.nodup_cons.mp (List.nodup_cons.mp ndBC).2).2
      have adx : dx ≠ a := fun z => na (by rw [z]; simp)
      have hB2 : RL K F2 (upd H2 a (.ins C' dx ((putN f ns).zip (putX f y ns vs)))) (.obj C' (putN f ns) (putX f l ns ls)) (.ref a) (a :: dx :: B2) :=
        ⟨a, dx, _, B2, rfl, rfl, upd_same, by rw [upd_ne adx]; exact hd, z2, b1⟩
      have n3 : (a :: dx :: B2).Nodup := by
        have s : ∀ b ∈ B2, b ∈ B' ++ Cc := fun b hb => List.mem_append.mpr (b3 b hb)
        refine List.nodup_cons.mpr ⟨fun z => na ?_, List.nodup_cons.mpr ⟨fun z => (List.nodup_cons.mp (List.nodup_cons.mp ndBC).2).1 (s dx z), nB2⟩⟩
        rcases List.mem_cons.mp z with y | y
        · rw [y]; simp
        · exact List.mem_cons_of_mem _ (s a y)
      obtain ⟨A2, k3, s3, t3⟩ := k2.turn h0 nC dCA (fun x hx => r2.keepF hl.dom (fun b hb => (fC b hb).1) x hx) upd_off upd_dom hB2 n3 (fun b hb => by
        rcases List.mem_cons.mp hb with z | z
        · rw [z]; simp
        · rcases List.mem_cons.mp z with z | z
          · rw [z]; simp
          · rcases b3 b z with u | u
            · simp [u]
            · exact List.mem_append_right _ u)
      refine c.nx F2 _ σ _ A2 k3 ⟨(r1.trans r2).ff, fun e n na => t3 _ _ ((r1.trans r2).hh.k e n) na, fun z => (tab_off h0.rl.plain upd_off).to ((r1.trans r2).hx.t z), fun b n => upd_dom b ((r1.trans r2).dom b n), fun b hb => ?_, fun b n => ?_⟩ g
      · rcases s3 b hb with z | z
        · exact .inl z
        · exact .inr (fC b z).2
      · rcases (r1.trans r2).nw b n with z | z
        · exact .inl z
        · exact .inr (.inr z)
    · exact g.elim⟩⟩
end
end HTr
namespace HTr
open PySem L2 PySem.Spec PyProof.Rows
set_option maxHeartbeats 1000000 in
theorem meets_enum1 {v : Value} {o : Obj} {H : Heap → Prop} (B : Begins v o H) :
    Meets (Builtin.«enumerate.__new__» ⟨[.type "enumerate", v], []⟩) (fun _ R s => H s.heap ∧
      R (.ok (.ret (.ref (s.heap.push o).objs.size))) { s with heap := (s.heap.push o).push { cls := .type "enumerate", data := .fields #[.none, .bool false, .ref s.heap.objs.size, rawInt 0, .none, .none] } }) :=
  .of_wp fun prog w A R s h => by
    obtain ⟨hp, g, d, tk, os⟩ := s
    obtain ⟨h1, h⟩ := h
    have hsub := sub_enumerate
    have q1 : ∀ {A' : Around} {E : Value → Shared → Prop} {Q : Value → Shared → Prop}, Q (.ref hp.objs.size) ⟨hp.push o, g, d, tk, os⟩ → wpAny (model prog w) A' (pyIter v) Q E ⟨hp, g, d, tk, os⟩ :=
      fun q => B.iter prog w _ _ ⟨hp, g, d, tk, os⟩ _ h1 q
    wp_walk
    refine wpAny_stack_any fun st => wpAny_pure ?_
    split
    · rename_i c _ _ _ _ _
      cases (c == Value.type "enumerate")
      · wp_walk using q1
        exact ⟨_, rfl, h⟩
      · wp_walk using q1
        exact ⟨_, rfl, h⟩
    · wp_walk using q1
      exact ⟨_, rfl, h⟩
section
variable {prog : Program} {w : World} {A : Around} {E : Value → Shared → Prop} {s : Shared}
theorem call_enum_tup {l : Addr} {items : Array Value} {Q : Value → Shared → Prop} (hL : s.heap.IsTuple l items)
    (h : ∀ h', IsEnum h' (s.heap.objs.size + 1) s.heap.objs.size 0 .none → h'.IsTupleIter s.heap.objs.size l 0 → h'.objs.size = s.heap.objs.size + 2 →
      (∀ b o, s.heap.get? b = some o → h'.get? b = some o) → Q (.ref (s.heap.objs.size + 1)) { s with heap := h' }) :
    wpAny (model prog w) A (call (.type "enumerate") [.ref l]) Q E s := by
  refine callType_new F.called_enumerate (by decide) (F.typeCall_enumerate_1 _) (F.newCall_enumerate_1 _) (fun obj => F.args_object_init_2 obj _) F.entry_enumerate_new
    (meets_enum1 (begins_tuple l items)) ⟨hL, ?_⟩
  generalize hh : s.heap.push { cls := .type "tuple_iterator", data := .fields #[.ref l, .int 0 0] } = h1
  have hz : h1.objs.size = s.heap.objs.size + 1 := by rw [← hh]; exact Heap.size_push ..
  have k1 : ∀ b o, s.heap.get? b = some o → h1.get? b = some o := fun b o e => by rw [← hh]; exact Heap.get?_push_of_some _ e
  have i1 : h1.get? s.heap.objs.size = some { cls := .type "tuple_iterator", data := .fields #[.ref l, .int 0 0] } := by rw [← hh]; exact Heap.get?_push_size _ rfl
  rw [hz]
  generalize hk : h1.push { cls := .type "enumerate", data := .fields #[.none, .bool false, .ref s.heap.objs.size, rawInt 0, .none, .none] } = h2
  have he : IsEnum h2 (s.heap.objs.size + 1) s.heap.objs.size 0 .none := by
    have z : h2.get? h1.objs.size = some { cls := .type "enumerate", data := .fields #[.none, .bool false, .ref s.heap.objs.size, rawInt 0, .none, .none] } := by rw [← hk]; exact Heap.get?_push_size _ rfl
    rw [hz] at z
    exact z
  have k2 : ∀ b o, h1.get? b = some o → h2.get? b = some o := fun b o e => by rw [← hk]; exact Heap.get?_push_of_some _ e
  exact ⟨⟨_, he, rfl⟩, h h2 he ⟨_, k2 _ _ i1, rfl, rfl⟩ (by rw [← hk, Heap.size_push, hz]) fun b o x => k2 b o (k1 b o x)⟩
end
def ItetT (K : PySem.W.Frag) (a : Addr) : It :=
  ⟨fun i H => ∃ (xs : List V) (x : V), SqT K H a xs ∧ xs[i]? = some x, fun i H v H' => ∃ T x, v = .ref T ∧ H T = none ∧ H' = upd H T (.tup [.int (i : Nat), x]) ∧ ∀ xs, SqT K H a xs → xs[i]? = some x, fun i H => ∃ xs : List V, SqT K H a xs ∧ xs.length = i⟩
theorem turn_enumT {P : Program} {w : World} {K : PySem.W.Frag} {elts : List Expr} {kk : Nat} {tpos : Pos} (a e it : Addr) (hai : a ≠ it) (hae : a ≠ e) :
    Turn P w K (.Tuple elts kk tpos) (ItetT K a) [e, it] e (fun i h => (∃ old, IsEnum h e it (0 + ((i : Nat) : Int)) old) ∧ h.IsTupleIter it a i ∧ e ≠ it) where
  mem := by simp
  obj := fun i h st b hb => by
    obtain ⟨⟨old, he⟩, ⟨o, ho, hc, hd⟩, _⟩ := st
    have e' : b = e ∨ b = it := by simpa using hb
    rcases e' with z | z
    · rw [z]; exact ⟨_, he, fun v q => nomatch q⟩
    · rw [z]; exact ⟨o, ho, fun v q => by rw [hd] at q; cases q⟩
  keep := fun i h h' st k => let ⟨⟨old, he⟩, hi, hne⟩ := st; ⟨⟨old, k e (by simp) _ he⟩, hi.at fun o q => k it (by simp) o q, hne⟩
  item := by
    intro X hP hw hK hc i pins s σ H E I hf st hg
    subst hP hw hK
    obtain ⟨⟨old, he⟩, hit, hne⟩ := st
    obtain ⟨xs, x, hq, hx⟩ := hg
    obtain ⟨its, rv, p, hz⟩ := I.tuple hq
    obtain ⟨u, hu, ru⟩ := rv.get hx
    have pt : s.heap.IsTuple a its.toArray := p
    have W := WalksT.enumFrom (prog := X.prog) (w := X.w) (A := X.A) (it := it) (fp := [it, a]) (n := its.toArray.size) 0 (Draws.tuple (A := X.A.in1) (I.ok.hd hc) it a hai its.toArray) e hne (by simp [hne, Ne.symm hae]) (by simp)
    have hil : i < its.toArray.size := by
      have := (List.getElem?_eq_some_iff.mp hu).1
      simpa using this
    refine W.item i s _ _ hil ⟨⟨old, he⟩, hit, pt⟩ fun T vals h' tk hv hTs hTt hmid hk => ?_
    obtain ⟨t, y, hy, ev⟩ := hv
    have ey : y = u := by
      have : its[i]? = some y := by simpa using hy
      rw [hu] at this
      exact (Option.some.inj this).symm
    subst ey ev
    refine ⟨_, rfl, W.go elts kk tpos i T { s with heap := h', toks := tk } _ _ hmid fun h'' st'' hk2 => ?_⟩
    have hTe : T ≠ e := hmid.2.2.1
    have hTi : T ≠ it := hmid.2.2.2
    have new : ObjOk X.prog X.w (upd H T (.tup [.int (i : Nat), x])) h'' T (.tup [.int (i : Nat), x]) := by
      obtain ⟨o, ho, hc2, n, hd⟩ := hTt
      refine ⟨by show 2 ≤ sizeLine; decide, [.int (0 + (i : Nat)) t, y], .cons ⟨t, by rw [Int.zero_add]⟩ (.cons ru .nil), ⟨o, hk2 T o (by simp [hTe, hTi]) ho, hc2, n, hd⟩⟩
    have I1 : Inv X pins σ (upd H T (.tup [.int (i : Nat), x])) { s with heap := h'', toks := tk } :=
      I.turnedNew (ch := [e, it]) (fun b ob hb q => hk2 b ob hb (hk b ob hb q)) hf hTs new
    refine ⟨.ref T, _, I1, rfl, ⟨T, x, rfl, I.hok.fresh hTs, rfl, fun ys hy => by rw [I.tuple_inj hy hq]; exact hx⟩, ⟨st''.1, st''.2.1, hne⟩, fun b hb => ?_⟩
    have hbl : b < s.heap.objs.size := by
      have e' : b = e ∨ b = it := by simpa using hb
      rcases e' with z | z
      · rw [z]; exact Heap.lt_size he
      · rw [z]; obtain ⟨_, q, _⟩ := hit; exact Heap.lt_size q
    rw [upd_ne (Nat.ne_of_lt (Nat.lt_of_lt_of_le hbl hTs))]
    exact (hf b hb).1
  done := by
    intro X hP hw hK hc i pins s σ H E I hf st hg
    subst hP hw hK
    obtain ⟨⟨old, he⟩, hit, hne⟩ := st
    obtain ⟨xs, hq, hx⟩ := hg
    obtain ⟨its, rv, p, hz⟩ := I.tuple hq
    have pt : s.heap.IsTuple a its.toArray := p
    have W := WalksT.enumFrom (prog := X.prog) (w := X.w) (A := X.A) (it := it) (fp := [it, a]) (n := its.toArray.size) 0 (Draws.tuple (A := X.A.in1) (I.ok.hd hc) it a hai its.toArray) e hne (by simp [hne, Ne.symm hae]) (by simp)
    have hn : i = its.toArray.size := by
      have := rv.length
      simp
      omega
    subst hn
    refine W.done s _ _ ⟨⟨old, he⟩, hit, pt⟩ fun h' tk hk => ⟨rfl, ?_⟩
    refine I.step (g' := s.gens) (d' := s.drawn) (ch := [e, it]) (fun b hb => ⟨(hf b hb).2.2.2.1, (hf b hb).2.1, (hf b hb).2.2.2.2.1, (hf b hb).2.2.2.2.2⟩) (fun b o _ _ hc e _ => hk b o hc e) (fun b o _ _ hc e _ => ⟨o.slots, hk b o hc e⟩)
      (fun b o _ e n => n) (fun b o hc e => ⟨o, hk b o hc e⟩) (fun b xs e => e) (fun b o u e => e) (fun b ps e => ⟨#[], by rw [e]; simp⟩) (fun m hm => ?_) (fun b u eb => ?_) I.bare
    · obtain ⟨o, es, ep, ho, r⟩ := hm
      exact ⟨o, es, ep, hk _ o (fun z => (hf _ z).2.1 rfl) ho, r⟩
    · refine (I.hok b u eb).stay (fun c v hc q => hk c v (fun z => ?_) q) (fun _ q => q) fun _ _ q => q
      have q0 := (hf c z).1
      rcases hc with y | y
      · rw [y, eb] at q0; cases q0
      · rw [y] at q0; cases q0
  self := fun A i s Q E st h => let ⟨⟨_, he⟩, _⟩ := st; wpAny_pyIter_enum he h
section
variable {X : Cx} {K : PySem.W.Frag} {ws vs : List Nat}
def iEnumA (K : PySem.W.Frag) (ta : TA) : TI := fun σ H R => ta σ H fun vs H1 => (∃ a xs, vs = [.ref a] ∧ SqL K H1 a xs ∧ R (Ite K a) H1) ∨ ∃ a xs, vs = [.ref a] ∧ SqT K H1 a xs ∧ R (ItetT K a) H1
theorem pi_enumA {e : Expr} {ta : TA} {p pos tpos : Pos} {elts : List Expr} {kk : Nat} (hg : Gl X "enumerate") (hm : X.mg "enumerate" = none) (ha : PA X [e] ta) (hs : starEach [e] X.env = [(false, eval e X.env)] := by rfl) :
    PI X (.Tuple elts kk tpos) (.Call (.Name "enumerate" p) [e] [] pos) (iEnumA X.K ta) := by
  refine ⟨fun pins s σ H R I h => ?_⟩
  refine Call_ (ld_blt I hg hm boot_enumerate (PyProof.Rows.callWith_type1 (thn (ha.run pos pins s σ H _ I h) fun us s1 ⟨vs, H1, I1, r1, q1⟩ => ?_) hs rfl))
  have fp : ∀ b, b ∈ [s1.heap.objs.size + 1, s1.heap.objs.size] → s1.heap.objs.size ≤ b := fun b hb => by
    have e' : b = s1.heap.objs.size + 1 ∨ b = s1.heap.objs.size := by simpa using hb
    rcases e' with z | z
    · rw [z]; exact Nat.le_add_right _ _
    · rw [z]; exact Nat.le_refl _
  rcases q1 with ⟨a, xs, ex, hq, q⟩ | ⟨a, xs, ex, hq, q⟩
  · subst ex
    cases r1 with
    | cons r rr =>
      cases rr
      cases r
      obtain ⟨its, rv, p', hz⟩ := I1.list hq
      refine call_enumerate_list p'.isList fun h' he hit hsz hk => wpAny_pyIter_enum he ?_
      have I2 : Inv X pins σ H1 { s1 with heap := h' } := I1.kept (t' := s1.toks) hk
      exact ⟨s1.heap.objs.size + 1, [s1.heap.objs.size + 1, s1.heap.objs.size], _, _, H1, rfl, I2, turn_enum a (s1.heap.objs.size + 1) s1.heap.objs.size, ⟨⟨.none, he⟩, hit, Nat.succ_ne_self _⟩, fun b hb => I1.fpOk (fp b hb) (I1.hok.fresh (fp b hb)), q⟩
  · subst ex
    cases r1 with
    | cons r rr =>
      cases rr
      cases r
      obtain ⟨its, rv, p', hz⟩ := I1.tuple hq
      have al : a < s1.heap.objs.size := p'.lt
      refine call_enum_tup (show s1.heap.IsTuple a its.toArray from p') fun h' he hit hsz hk => wpAny_pyIter_enum he ?_
      have I2 : Inv X pins σ H1 { s1 with heap := h' } := I1.kept (t' := s1.toks) hk
      exact ⟨s1.heap.objs.size + 1, [s1.heap.objs.size + 1, s1.heap.objs.size], _, _, H1, rfl, I2, turn_enumT a (s1.heap.objs.size + 1) s1.heap.objs.size (Nat.ne_of_lt al) (Nat.ne_of_lt (Nat.lt_succ_of_lt al)), ⟨⟨.none, by simpa using he⟩, hit, Nat.succ_ne_self _⟩, fun b hb => I1.fpOk (fp b hb) (I1.hok.fresh (fp b hb)), q⟩
def enumT (ts : List T) : List T := ts.zipIdx.map fun p => .tup [.int (p.2 : Nat), p.1]
theorem enumT_len (ts : List T) : (enumT ts).length = ts.length := by simp [enumT]
theorem enumT_get {ts : List T} {i : Nat} {t : T} (h : ts[i]? = some t) : (enumT ts)[i]? = some (.tup [.int (i : Nat), t]) := by
  simp [enumT, h]
theorem RP.tup {F H : Hp} {T : Addr} {xs : List V} {ts : List HTr.T} (fh : Same F H) (hT : H T = none) (hx : RTs K F ts xs) : RP K F H (upd F T (.tup xs)) (upd H T (.tup xs)) ∧ RT K (upd F T (.tup xs)) (.tup ts) (.ref T) := by
  have fT := Same.no fh hT
  refine ⟨⟨upd_freshH hT, upd_fresh fT, same_upd fh, fun a n => ?_⟩, T, xs, rfl, .inl (.inl upd_same), hx.mono (upd_fresh fT)⟩
  · by_cases hb : a = T
    · subst hb; exact .inr hT
    · rw [upd_ne hb] at n; exact .inl n
theorem enumL_walk {F1 H1 : Hp} {a : Addr} {us : List V} {ts : List T} (ha : H1 a = some (.lst us)) (hv : RTs K F1 ts us) :
    (∀ i H, Same H1 H → i < (enumT ts).length → (Ite K a).go i H) ∧ (∀ i H, Same H1 H → (enumT ts).length = i → (Ite K a).stop i H) ∧
    ∀ i F H x H', Same F1 F → Same H1 H → Same F H → i < (enumT ts).length → (Ite K a).yld i H x H' → ∃ F' t, RP K F H F' H' ∧ (enumT ts)[i]? = some t ∧ RT K F' t x := by
  rw [enumT_len]
  refine ⟨fun i H s hi => ?_, fun i H s hi => ⟨us, .inl (.inl (s.g ha)), by rw [hv.len]; exact Nat.le_of_eq hi⟩, fun i F H x H' s1 s2 s3 hi y => ?_⟩
  · obtain ⟨x, hx⟩ : ∃ x, ts[i]? = some x := ⟨ts[i], by simp [hi]⟩
    obtain ⟨u, hu, _⟩ := hv.get hx
    exact ⟨us, u, .inl (.inl (s.g ha)), hu⟩
  · obtain ⟨x', hx⟩ : ∃ x, ts[i]? = some x := ⟨ts[i], by simp [hi]⟩
    obtain ⟨u, hu, hr⟩ := hv.get hx
    obtain ⟨T, w, e1, hT, e2, y⟩ := y
    have z := y us (.inl (.inl (s2.g ha)))
    rw [hu] at z
    cases z
    subst e1 e2
    obtain ⟨r1, r2⟩ := RP.tup (K := K) (ts := [.int (i : Nat), x']) s3 hT ⟨.int i, [u], rfl, rfl, u, [], rfl, hr.mono s1, rfl⟩
    exact ⟨_, _, r1, enumT_get hx, r2⟩
theorem enumTup_walk {F1 H1 : Hp} {a : Addr} {us : List V} {ts : List T} (ha : SqT K H1 a us) (hv : RTs K F1 ts us) :
    (∀ i H, Same H1 H → i < (enumT ts).length → (ItetT K a).go i H) ∧ (∀ i H, Same H1 H → (enumT ts).length = i → (ItetT K a).stop i H) ∧
    ∀ i F H x H', Same F1 F → Same H1 H → Same F H → i < (enumT ts).length → (ItetT K a).yld i H x H' → ∃ F' t, RP K F H F' H' ∧ (enumT ts)[i]? = some t ∧ RT K F' t x := by
  rw [enumT_len]
  refine ⟨fun i H s hi => ?_, fun i H s hi => ⟨us, seqT_same s ha, by rw [hv.len]; exact hi⟩, fun i F H x H' s1 s2 s3 hi y => ?_⟩
  · obtain ⟨x, hx⟩ : ∃ x, ts[i]? = some x := ⟨ts[i], by simp [hi]⟩
    obtain ⟨u, hu, _⟩ := hv.get hx
    exact ⟨us, u, seqT_same s ha, hu⟩
  · obtain ⟨x', hx⟩ : ∃ x, ts[i]? = some x := ⟨ts[i], by simp [hi]⟩
    obtain ⟨u, hu, hr⟩ := hv.get hx
    obtain ⟨T, w, e1, hT, e2, y⟩ := y
    have z := y us (seqT_same s2 ha)
    rw [hu] at z
    cases z
    subst e1 e2
    obtain ⟨r1, r2⟩ := RP.tup (K := K) (ts := [.int (i : Nat), x']) s3 hT ⟨.int i, [u], rfl, rfl, u, [], rfl, hr.mono s1, rfl⟩
    exact ⟨_, _, r1, enumT_get hx, r2⟩
def sForE (m : MA) (g : MG) (b : MS) : MS := fun e S => m S fun ls o => o = true ∧ match ls with
  | [l] => match l.tree with
    | .lst ts => forL g b (enumT ts) e S
    | .tup ts => forL g b (enumT ts) e S
    | _ => False
  | _ => False
theorem ls_forE {st : Stmt} {m : MA} {g : MG} {b : MS} (h : PS X st (tFor (iEnumA K (liftA K m)) (liftG K ws g) (liftS K EX b))) : PS X st (liftS K EX (sForE m g b)) := psW h fun D σ H ⟨F, S, A, k, e, q, c⟩ =>
  ⟨F, S, A, _, k, q, fun ls o ⟨eo, q1⟩ us F1 H1 B r1 h1 o1 => by
    split at q1
    · rename_i l
      obtain ⟨v, ev, h2⟩ := h1.one
      subst ev
      obtain ⟨nB, fB⟩ := o1 eo
      obtain ⟨rp, k2, ht⟩ := k.freeze r1 h2 fB
      split at q1
      · rename_i ts et
        rw [et] at ht
        obtain ⟨a, us, ev, ha, hv⟩ := ht
        subst ev
        refine .inl ⟨a, us, rfl, .inl (.inl (k2.fh.g ha)), for_core (J := Ite K a) (ts := enumT ts) (fun i F H s1 s2 hi => ?_) (fun i F H s1 s2 hi => ?_) (fun i F H x H' s1 s2 hi y => ?_) k2 q1 (c.on rp.step)⟩
        · exact (enumL_walk (s2.g (s1.g ha)) hv).1 i H (Same.refl _) hi
        · exact (enumL_walk (s2.g (s1.g ha)) hv).2.1 i H (Same.refl _) hi
        · exact (enumL_walk (s2.g (s1.g ha)) hv).2.2 i F H x H' s1 (Same.refl _) s2 hi y
      · rename_i ts et
        rw [et] at ht
        obtain ⟨a, us, ev, ha, hv⟩ := ht
        subst ev
        refine .inr ⟨a, us, rfl, seqT_same k2.fh ha, for_core (J := ItetT K a) (ts := enumT ts) (fun i F H s1 s2 hi => ?_) (fun i F H s1 s2 hi => ?_) (fun i F H x H' s1 s2 hi y => ?_) k2 q1 (c.on rp.step)⟩
        · exact (enumTup_walk (seqT_same (s1.trans s2) ha) hv).1 i H (Same.refl _) hi
        · exact (enumTup_walk (seqT_same (s1.trans s2) ha) hv).2.1 i H (Same.refl _) hi
        · exact (enumTup_walk (seqT_same (s1.trans s2) ha) hv).2.2 i F H x H' s1 (Same.refl _) s2 hi y
      · exact q1.elim
    · exact q1.elim⟩
def zipT (ts us : List T) : List T := (ts.zip us).map fun p => .tup [p.1, p.2]
theorem zipT_len (ts us : List T) : (zipT ts us).length = min ts.length us.length := by simp [zipT]
theorem zipL_walk {F1 H1 : Hp} {a b : Addr} {xs ys : List V} {ts us : List T} (ha : H1 a = some (.lst xs)) (hb : H1 b = some (.lst ys)) (hv : RTs K F1 ts xs) (hw : RTs K F1 us ys) :
    (∀ i H, Same H1 H → i < (zipT ts us).length → (Itz K a b).go i H) ∧ (∀ i H, Same H1 H → (zipT ts us).length = i → (Itz K a b).stop i H) ∧
    ∀ i F H x H', Same F1 F → Same H1 H → Same F H → i < (zipT ts us).length → (Itz K a b).yld i H x H' → ∃ F' t, RP K F H F' H' ∧ (zipT ts us)[i]? = some t ∧ RT K F' t x := by
  rw [zipT_len]
  refine ⟨fun i H s hi => ?_, fun i H s hi => ⟨xs, ys, .inl (.inl (s.g ha)), .inl (.inl (s.g hb)), by rw [hv.len, hw.len]; omega⟩, fun i F H x H' s1 s2 s3 hi y => ?_⟩
  · obtain ⟨x, hx⟩ : ∃ x, ts[i]? = some x := ⟨ts[i], by simp⟩
    obtain ⟨y, hy⟩ : ∃ x, us[i]? = some x := ⟨us[i], by simp⟩
    obtain ⟨u, hu, _⟩ := hv.get hx
    obtain ⟨u', hu', _⟩ := hw.get hy
    exact ⟨xs, ys, u, u', .inl (.inl (s.g ha)), .inl (.inl (s.g hb)), hu, hu'⟩
  · obtain ⟨x', hx⟩ : ∃ x, ts[i]? = some x := ⟨ts[i], by simp⟩
    obtain ⟨y', hy⟩ : ∃ x, us[i]? = some x := ⟨us[i], by simp⟩
    obtain ⟨u, hu, hr⟩ := hv.get hx
    obtain ⟨u', hu', hr'⟩ := hw.get hy
    obtain ⟨T, w, w', e1, hT, e2, y1, y2⟩ := y
    have z := y1 xs (.inl (.inl (s2.g ha)))
    have z' := y2 ys (.inl (.inl (s2.g hb)))
    rw [hu] at z
    rw [hu'] at z'
    cases z
    cases z'
    subst e1 e2
    obtain ⟨r1, r2⟩ := RP.tup (K := K) (ts := [x', y']) s3 hT ⟨u, [u'], rfl, hr.mono s1, u', [], rfl, hr'.mono s1, rfl⟩
    refine ⟨_, _, r1, ?_, r2⟩
    have hz : (ts.zip us)[i]? = some (x', y') := List.getElem?_zip_eq_some.mpr ⟨hx, hy⟩
    simp [zipT, hz]
end
end HTr
namespace HTr
open PySem L2
variable {EX : WX}
abbrev MO := S → (Option Int → Prop) → Prop
def liftO (K : PySem.W.Frag) (m : MO) : TO := fun σ H Q => ∃ F S A G, Ok K F H S σ A ∧ m S G ∧ ∀ i, G i → ∀ F' H', RP K F H F' H' → Q i H'
def oNone : MO := fun _ Q => Q none
def oSome (m : MR) : MO := fun S Q => m S fun l _ => match l with
  | .fz (.int i) => Q (some i)
  | _ => False
section
variable {X : Cx} {K : PySem.W.Frag}
theorem poW {e : Option Expr} {t t' : TO} (h : PO X e t) (w : ∀ σ H Q, t' σ H Q → t σ H Q) : PO X e t' := ⟨fun pins s σ H Q I q => h.run pins s σ H Q I (w σ H Q q)⟩
theorem lo_none : PO X none (liftO K oNone) := poW po_none fun σ H Q ⟨F, S, A, G, k, q, w⟩ => w none q F H (RP.refl k.fh)
theorem lo_some {e : Expr} {m : MR} (h : PE X e (liftR K m)) : PO X (some e) (liftO K (oSome m)) := poW (po_some h) fun σ H Q ⟨F, S, A, G, k, q, w⟩ =>
  ⟨F, S, A, _, k, q, fun l o g v F1 H1 B r1 h1 _ => by
    split at g
    · rename_i i
      obtain ⟨_, rfl⟩ := h1
      exact ⟨i, rfl, w _ g F1 H1 r1⟩
    · exact g.elim⟩
def cut {α : Type} (xs : List α) (lo hi : Option Int) : List α := (xs.drop (HT.sIx xs.length 0 lo)).take (HT.sIx xs.length xs.length hi - HT.sIx xs.length 0 lo)
theorem RTs.drop {F : Hp} : ∀ {ts : List T} {vs : List V} (n : Nat), RTs K F ts vs → RTs K F (ts.drop n) (vs.drop n)
  | ts, vs, 0, h => h
  | [], _, n + 1, e => by subst e; rfl
  | t :: ts, _, n + 1, ⟨v, r, e, _, h⟩ => by subst e; exact RTs.drop n h
theorem RTs.take {F : Hp} : ∀ {ts : List T} {vs : List V} (n : Nat), RTs K F ts vs → RTs K F (ts.take n) (vs.take n)
  | ts, vs, 0, h => rfl
  | [], _, n + 1, e => by subst e; rfl
  | t :: ts, _, n + 1, ⟨v, r, e, h1, h⟩ => by subst e; exact ⟨v, _, rfl, h1, RTs.take n h⟩
theorem RTs.cut {F : Hp} {ts : List T} {vs : List V} (h : RTs K F ts vs) (lo hi : Option Int) : RTs K F (cut ts lo hi) (cutV vs lo hi) := by
  unfold HTr.cut cutV
  rw [h.len]
  exact (h.drop _).take _
theorem RTs.ints {F : Hp} : ∀ xs : List Int, RTs K F (xs.map T.int) (xs.map V.int)
  | [] => rfl
  | x :: xs => ⟨.int x, _, rfl, rfl, RTs.ints xs⟩
def fSl (l : L) (lo hi : Option Int) (G : L → Prop) : Prop := match itemsF l, itemsFT l, l with
  | some ts, _, _ => G (.lst ((cut ts lo hi).map .fz))
  | none, some ts, _ => ¬ (HT.sIx ts.length 0 lo = 0 ∧ HT.sIx ts.length ts.length hi = ts.length) ∧ G (.fz (.tup (cut ts lo hi)))
  | none, none, .fz (.scr xs) => G (.lst ((cut (xs.map T.int) lo hi).map .fz))
  | none, none, .fz (.str z) => z.length ≤ sizeLine ∧ G (.fz (.str (cutS z lo hi)))
  | _, _, _ => False
def rSl (m : MR) (a b : MO) : MR := fun S Q => m S fun l _ => a S fun lo => b S fun hi => fSl l lo hi fun u => Q u true
abbrev rSlA (K : PySem.W.Frag) : V → Option Int → Option Int → Hp → VK → Prop := fun x lo hi H Q => rSlL K x lo hi H Q ∨ (rSlT K x lo hi H Q ∨ rSlS x lo hi H Q)
theorem sl_all : SlR X (rSlA X.K) := SlR.or sl_list (SlR.or sl_tup sl_str)
theorem lr_sl {e : Expr} {m : MR} {a b : MO} (h : PE X e (tSl (rSlA K) (liftR K m) (liftO K a) (liftO K b))) : PE X e (liftR K (rSl m a b)) := peW h fun σ H Q ⟨F, S, A, G, k, q, w⟩ =>
  ⟨F, S, A, _, k, q, fun l o g v F1 H1 B1 r1 h1 _ => ⟨F1, S, A, _, k.rp r1, g, fun lo g2 F2 H2 r2 => ⟨F2, S, A, _, (k.rp r1).rp r2, g2, fun hi g3 F3 H3 r3 => by
    have rr := (r1.trans r2).trans r3
    have h3 := (h1.mono r2.ff (On.of r2.hh B1)).mono r3.ff (On.of r3.hh B1)
    have out : Out K F3 H3 (fun u => G u true) Q := fun u gu w' F4 H4 C r4 h4 nd fr =>
      w u true gu w' F4 H4 C (rr.trans r4) h4 fun _ => ⟨nd, fun c hc => ⟨(fr c hc).1, none_of_dom rr.dom (fr c hc).2⟩⟩
    unfold fSl at g3
    split at g3
    · rename_i ts e1
      obtain ⟨p, us, rfl, e2, e3⟩ := itemsF_ok h3 r3.fh e1
      exact .inl ⟨p, us, rfl, .inl (.inl e2), fun x hx => out.lstF r3.fh g3 (e3.cut lo hi) hx⟩
    · rename_i ts _ e1
      obtain ⟨p, us, rfl, e2, e3⟩ := itemsFT_ok h3 r3.fh e1
      exact .inr (.inl ⟨p, us, rfl, e2, by rw [e3.len]; exact g3.1, fun x hx => out.tupF r3.fh g3.2 (e3.cut lo hi) hx⟩)
    · rename_i xs _ _
      obtain ⟨_, p, rfl, e2⟩ := h3
      exact .inl ⟨p, _, rfl, sqL_same r3.fh e2, fun x hx => out.lstF r3.fh g3 ((RTs.ints xs).cut lo hi) hx⟩
    · rename_i z _ _
      obtain ⟨_, rfl⟩ := h3
      exact .inr (.inr ⟨z, rfl, g3.1, out.atom r3.fh g3.2 rfl⟩)
    · exact g3.elim⟩⟩⟩
theorem RLs.setAt {F H : Hp} {l : L} {v : V} {C : List Addr} (hl : RL K F H l v C) : ∀ {ls : List L} {vs : List V} {B : List Addr} (j : Nat), j < ls.length → RLs K F H ls vs B → ∃ B', RLs K F H (ls.set j l) (vs.set j v) B' ∧ ((B ++ C).Nodup → B'.Nodup) ∧ ∀ b ∈ B', b ∈ B ∨ b ∈ C
  | [], _, _, j, hj, _ => by simp at hj
  | l0 :: ls, _, _, 0, _, ⟨w, r, B1, B2, e1, e2, h1, h2⟩ => by
    subst e1 e2
    refine ⟨C ++ B2, ⟨v, r, C, B2, rfl, rfl, hl, h2⟩, fun nd => ?_, fun b hb => ?_⟩
    · rw [List.append_assoc] at nd
      exact (List.perm_append_comm.nodup_iff).mp (List.nodup_append.mp nd).2.1
    · rcases List.mem_append.mp hb with z | z
      · exact .inr z
      · exact .inl (List.mem_append_right _ z)
  | l0 :: ls, _, _, j + 1, hj, ⟨w, r, B1, B2, e1, e2, h1, h2⟩ => by
    subst e1 e2
    obtain ⟨B', a1, a2, a3⟩ := RLs.setAt hl j (by simpa using hj) h2
    refine ⟨B1 ++ B', ⟨w, _, B1, B', rfl, rfl, h1, a1⟩, fun nd => ?_, fun b hb => ?_⟩
    · rw [List.append_assoc] at nd
      obtain ⟨n1, n2, n3⟩ := List.nodup_append.mp nd
      refine List.nodup_append.mpr ⟨n1, a2 n2, fun a ha b hb e => ?_⟩
      subst e
      exact n3 a ha a (List.mem_append.mpr (a3 a hb)) rfl
    · rcases List.mem_append.mp hb with z | z
      · exact .inl (List.mem_append_left _ z)
      · rcases a3 b z with y | y
        · exact .inl (List.mem_append_right _ y)
        · exact .inr y
def sIx (m : MR) (p : MP) (n : MR) : MS := fun e S => m S fun l o => o = true ∧ p S fun l0 put => n S fun li _ => match l0, li with
  | .lst ls, .fz (.int i) => match ixN ls.length i with
    | some j => j < ls.length ∧ e.nx (put (.lst (ls.set j l)))
    | none => False
  | _, _ => False
theorem ls_ix {st : Stmt} {m n : MR} {p : MP} (h : PS X st (tAsg (liftR K m) (gSub (liftP K p) (liftR K n) rSetL))) : PS X st (liftS K EX (sIx m p n)) := psW h fun D σ H ⟨F, S, A, k, e, q, c⟩ =>
  ⟨F, S, A, _, k, q, fun l o ⟨eo, g⟩ y F1 H1 Cc r1 hl oC => ⟨F1, S, A, _, k.rp r1, g, fun l0 put g0 v F2 H2 B R r2 h0 => ⟨F2, S, A, _, (k.rp r1).rp r2, g0, fun li oi g v' F3 H3 B3 r3 h3 _ => by
    obtain ⟨nC, fC⟩ := oC eo
    split at g
    · rename_i ls i
      obtain ⟨_, rfl⟩ := h3
      split at g
      · rename_i j ej
        obtain ⟨jl, g⟩ := g
        have h0' := h0.rp r3
        have rr := (r1.trans r2).trans r3
        obtain ⟨a, vs, B', ev, eB, ha, hv⟩ := h0'.rl
        subst ev eB
        have k2 := k.rp rr
        have r23 := r2.trans r3
        have hl2 : RL K F3 H3 l y Cc := hl.mono r23.ff (On.of r23.hh _)
        have dCA : ∀ x ∈ Cc, x ∉ A := fun x hx z => k.cs.dom x z (fC x hx).2
        have inA : ∀ b, b ∈ a :: B' → b ∈ A := fun b z => h0'.pm.mem_iff.mpr (List.mem_append_left _ z)
        have ndB : (a :: B').Nodup := (List.nodup_append.mp (h0'.pm.nodup_iff.mp k.nd)).1
        have ndBC : (a :: B' ++ Cc).Nodup := List.nodup_append.mpr ⟨ndB, nC, fun x hx b hb e => by subst e; exact dCA x hb (inA x hx)⟩
        have na : a ∉ B' ++ Cc := (List.nodup_cons.mp ndBC).1
        obtain ⟨A2, a1, nA, sub0⟩ := RLs.setAt (hl2.mono (Same.refl _) (on_upd (o := .lst (vs.set j y)) fun z => na (List.mem_append_right _ z))) j jl (hv.mono (Same.refl _) (on_upd (o := .lst (vs.set j y)) fun z => na (List.mem_append_left _ z)))
        have sub : ∀ b ∈ A2, b ∈ B' ++ Cc := fun b hb => List.mem_append.mpr (sub0 b hb)
        have nA2 : A2.Nodup := nA (List.nodup_cons.mp ndBC).2
        refine ⟨a, vs, i, j, rfl, rfl, ha, by rw [hv.len]; exact ej, ?_⟩
        have hB2 : RL K F3 (upd H3 a (.lst (vs.set j y))) (.lst (ls.set j l)) (.ref a) (a :: A2) := ⟨a, _, A2, rfl, rfl, upd_same, a1⟩
        obtain ⟨A3, k3, s3, t3⟩ := k2.turn h0' nC dCA (fun x hx => r23.keepF hl.dom (fun b hb => (fC b hb).1) x hx) upd_off upd_dom hB2 (List.nodup_cons.mpr ⟨fun z => na (sub a z), nA2⟩) (fun b hb => by
          rcases List.mem_cons.mp hb with z | z
          · rw [z]; simp
          · rcases List.mem_append.mp (sub b z) with u | u
            · simp [u]
            · exact List.mem_append_right _ u)
        refine c.nx F3 _ σ _ A3 k3 ⟨rr.ff, fun e n na => t3 _ _ (rr.hh.k e n) na, fun z => (tab_off h0'.rl.plain upd_off).to (rr.hx.t z), fun b n => upd_dom b (rr.dom b n), fun b hb => ?_, fun b n => ?_⟩ g
        · rcases s3 b hb with z | z
          · exact .inl z
          · exact .inr (fC b z).2
        · rcases rr.nw b n with z | z
          · exact .inl z
          · exact .inr (.inr z)
      · exact g.elim
    · exact g.elim⟩⟩⟩
def T.ty? : T → Option String
  | .non => some "NoneType"
  | .bl _ => some "bool"
  | .int _ => some "int"
  | .str _ => some "str"
  | .tup _ => some "tuple"
  | .lst _ => some "list"
  | .dct _ _ _ => some "dict"
  | _ => none
theorem RT.ty {H : Hp} {t : T} {v : V} {n : String} (h : RT K H t v) (e : t.ty? = some n) : TyX K H v (.type n) := by
  cases t <;> simp only [T.ty?, Option.some.injEq, reduceCtorEq] at e <;> subst e
  · cases (show _ = _ from h); exact .base .non
  · cases (show _ = _ from h); exact .base (.bl _)
  · cases (show _ = _ from h); exact .base (.int _)
  · cases (show _ = _ from h); exact .base (.str _)
  · obtain ⟨a, vs, rfl, q, _⟩ := h
    rcases q with (q | ⟨o, q⟩) | ⟨o, its, n, q1, q2, _⟩
    · exact .base (.tup q)
    · exact .fTuple q
    · exact .kTuple q1 (by first | exact q2 | exact q2.1)
  · obtain ⟨a, vs, rfl, q, _⟩ := h
    exact .base (.lst q)
  · obtain ⟨a, rfl, ⟨_, kvs, q, _⟩ | ⟨_, kvs, q, _⟩⟩ := h
    · exact .base (.dK q)
    · exact .base (.dT q)
end
end HTr
namespace HTr
open PySem L2
variable {EX : WX}
abbrev XC (P : Program) (w : World) (K : PySem.W.Frag) (mg : Str → Option Value) (base : Heap) (N : List Str) (qual : Str) (st : Stmt) (f : Addr) (cdv : Value) (A : Around) (outer : List Env) (s : Shared) (H : Hp) (E : XK) : Cx :=
  (cxOf CX0 P w K mg base N qual (defScope st) f cdv A outer s H E).nox
section
variable {P : Program} {w : World} {K : PySem.W.Frag} {mg : Str → Option Value} {base : Heap}
structure Gd (K : PySem.W.Frag) (mg : Str → Option Value) (x : Str) (st : Stmt) (ps : List Str) (f : Addr) (fd : FuncData) : Prop where
  fn : FunD K x x (defArgs st) (defBody st) (defScope st) [] [] f fd
  bd : Binds K fd ps []
  gl : mg x = some (.ref f)
end
section
variable {X : Cx} {K : PySem.W.Frag}
theorem lt_chain {e : Expr} {r r' : R2} {f g : L → L → (L → Prop) → Prop} {m n p : MR} (ho : OpG K r f) (ho' : OpG K r' g) (h : PT X e (tTest (tChain r r' (liftR K m) (liftR K n) (liftR K p)))) : PT X e (liftT K (tsV (rChain f g m n p))) :=
  ptW h fun σ H Q q => w_chain ho ho' σ H _ (w_tst σ H Q q)
def CM (i j : Int) : Prop := i.natAbs < 2 ^ 200 ∧ j.natAbs < 2 ^ 200
theorem op_mulI {X : Cx} : OpR X (binaryOp .Mult) (rI CM fun i j => .int (i * j)) := by
  intro pins s σ H x y v u Q I rx ry h
  obtain ⟨i, j, e1, e2, hc, q⟩ := h
  exact op_mulW pins s σ H x y v u Q I rx ry ⟨i, j, e1, e2, wide_mul hc.1 hc.2 (by decide) (by decide) (by decide), q⟩
def CDv (_ j : Int) : Prop := 0 < j ∧ j < 2 ^ 200
theorem op_divI {X : Cx} : OpR X (binaryOp .FloorDiv) (rI CDv fun i j => .int (i / j)) := by
  intro pins s σ H x y v u Q I rx ry h
  obtain ⟨i, j, e1, e2, hc, q⟩ := h
  refine op_fdivW pins s σ H x y v u Q I rx ry ⟨i, j, e1, e2, wide_div (b := 200) hc.1 ?_ (by decide) (by decide), q⟩
  have h1 := hc.1
  have h2 := hc.2
  omega
def tyNames : List String := ["NoneType", "bool", "int", "str", "tuple", "list", "dict"]
def tyIs (t n : String) : Bool := t == n || (t == "bool" && n == "int")
theorem kitB_all : ∀ t ∈ tyNames, ∀ n ∈ tyNames, kitB t n = some (tyIs t n) := by decide +kernel
theorem T.ty_mem {t : T} {n : String} (e : t.ty? = some n) : n ∈ tyNames := by
  cases t <;> simp only [T.ty?, Option.some.injEq, reduceCtorEq] at e <;> subst e <;> decide
def rIs (n : String) (m : MR) : MR := fun S Q => m S fun l _ => match l.tree.ty? with
  | some t => Q (.fz (.bl (tyIs t n))) true
  | none => False
theorem lr_is {e : Expr} {n : String} {m : MR} (hn : n ∈ tyNames) (h : PE X e (tCB (rIsi K) (tCons (liftR K m) (tCons (tC (.ty n)) tNil)))) : PE X e (liftR K (rIs n m)) := peW h fun σ H Q ⟨F, S, A, G, k, q, w⟩ =>
  ⟨F, S, A, _, k, q, fun l o g v F1 H1 B1 r1 h1 _ => by
    split at g
    · rename_i t et
      exact ⟨v, .ty n, .type t, .type n, tyIs t n, rfl, .ty n, (h1.seen r1.fh).ty et, kit_ty (kitB_all _ (T.ty_mem et) _ hn), w _ _ g (.bl (tyIs t n)) F1 H1 [] r1 ⟨rfl, rfl⟩ own_nil⟩
    · exact g.elim⟩
end
end HTr
namespace HTr
open PySem L2
theorem bt_len : bootBuiltins "len" = some (.builtin "len") := by decide +kernel
theorem bt_list : bootBuiltins "list" = some (.type "list") := by decide +kernel
theorem bt_tuple : bootBuiltins "tuple" = some (.type "tuple") := by decide +kernel
theorem bt_int : bootBuiltins "int" = some (.type "int") := by decide +kernel
theorem bt_bool : bootBuiltins "bool" = some (.type "bool") := by decide +kernel
theorem bt_str : bootBuiltins "str" = some (.type "str") := by decide +kernel
theorem bt_all : bootBuiltins "all" = some (.builtin "all") := by decide +kernel
theorem bt_sorted : bootBuiltins "sorted" = some (.builtin "sorted") := by decide +kernel
theorem bt_isinstance : bootBuiltins "isinstance" = some (.builtin "isinstance") := by decide +kernel
theorem hu64 {k : Nat} {A : Around} (hr : Room k A) : A.units + 64 < cLine := by have := hr.un; omega
end HTr
namespace HTr
open PySem L2 PySem.Spec
section
variable {X : Cx} {pins : List (Addr × Obj)} {σ : L2.St} {H : Hp} {s : Shared} {a b : Addr} {r : Value} {d : V} {A : Around} {E : Value → Shared → Prop}
theorem d_setdT {kvs : List (List Key × V)} {k : List Key} {Q : Value → Shared → Prop} (hu : A.units + 1 < cLine) (I : Inv X pins σ H s) (e : H a = some (.dT kvs)) (eb : H b = some (.tup (k.map kV))) (rd : RelV d r) (hl : kvs.length < sizeLine)
    (h1 : ∀ v, valV kvs k = some v → ∀ (w' : Value) (s' : Shared), Inv X pins σ H s' → RelV v w' → Q w' s') (h2 : valV kvs k = none → ∀ (w' : Value) (s' : Shared), Inv X pins σ (upd H a (.dT (putK kvs k d))) s' → RelV d w' → Q w' s') :
    wpAny (model X.prog X.w) A (call (.builtin "dict.setdefault") [.ref a, .ref b, r]) Q E s := by
  obtain ⟨z, hd, xs, rel, dd⟩ := dt_of I.hok e
  have hz : xs.length ≤ sizeLine := by rw [← Paired.length rel]; exact z
  refine call_setdefault_heap (hsz := hz) (tupleKind_room_in1 hu) (key_of I.hok eb) hd dd (fun p hp => ?_) fun hn h' dd' hs => ?_
  · have q := rel.val k
    rw [hp] at q
    cases q0 : valV kvs k with
    | none => rw [q0] at q; exact (show False from q).elim
    | some v0 => rw [q0] at q; exact h1 v0 q0 _ _ (I.tok _) q
  · have q := rel.val k
    rw [hn] at q
    cases q0 : valV kvs k with
    | some v0 => rw [q0] at q; exact (show False from q).elim
    | none =>
      have hl2 : (putK kvs k d).length ≤ sizeLine := by have := length_putK kvs k d; omega
      obtain ⟨q, es, ep, hq, g2, g3, g4, _, g5⟩ := dd'
      refine h2 q0 _ _ (d_write I (by rw [e]; exact True.intro) hs ⟨q, hq⟩ ⟨hl2, hd, _, (rel.put k eb rd).keeps fun c ys ec => ?_, q, es, ep, hq, g2, g3, g4, g5⟩) rd
      rw [upd_ne (ne_of ec e (fun z => nomatch z))]
      exact ec
end
def tDSetdT (td ty tx : TE) : TE := fun σ H Q => td σ H fun x H1 => ∃ a, x = .ref a ∧ IsD H1 a ∧ ty σ H1 fun y H2 => tx σ H2 fun z H3 => ∃ (kvs : List (List Key × V)) (k : List Key) (b : Addr), H3 a = some (.dT kvs) ∧ y = .ref b ∧ H3 b = some (.tup (k.map kV)) ∧ kvs.length < sizeLine ∧
  (∀ v, valV kvs k = some v → Q v H3) ∧ (valV kvs k = none → Q z (upd H3 a (.dT (putK kvs k z))))
section
variable {X : Cx} {o e f : Expr} {td ty tx : TE} {apos cpos : Pos}
theorem pe_dsetdT (hu : X.A.units + 64 < cLine) (ho : PE X o td) (he : PE X e ty) (hf : PE X f tx) (m : M2 X o "setdefault" apos e f cpos) : PE X (.Call (.Attribute o "setdefault" apos) [e, f] [] cpos) (tDSetdT td ty tx) := by
  refine ⟨fun pins s σ H Q I h => ?_⟩
  refine wpAny_Call_method m.base m.few m.line PySem.F.plainAttrs_dict PySem.F.slot_dict_setdefault PySem.F.type_dict_setdefault (thn (ho.run pins s σ H _ I h) fun u s1 ⟨x, H1, I1, rx, a, ex, d, q1⟩ => ?_)
  subst ex
  obtain rfl : u = Value.ref a := rx
  obtain ⟨t1, t2, _⟩ := isD_at I1 d
  refine ⟨t1, t2, ?_⟩
  rw [m.trees]
  refine Calls.callWith_builtin rfl (Calls.evalArgs_plain (Calls.spliced_cons (thn (he.run pins s1 σ H1 _ I1 q1) fun iv s2 ⟨y, H2, I2, ry, q2⟩ =>
    Calls.spliced_cons (thn (hf.run pins s2 σ H2 _ I2 q2) fun fv s3 ⟨z, H3, I3, rz, kvs, k, b, ea, ey, eb, hl, q3, q4⟩ => Calls.spliced_nil ?_))))
  subst ey
  obtain rfl : iv = Value.ref b := ry
  exact d_setdT (by omega) I3 ea eb rz hl (fun v hv w' s4 I4 rw' => ⟨v, _, I4, rw', q3 v hv⟩) fun hn w' s4 I4 rw' => ⟨z, _, I4, rw', q4 hn⟩
end
theorem keyT_kV {K : PySem.W.Frag} {F : Hp} : ∀ {kk : List Key} {vs : List V}, RTs K F (kk.map keyT) vs → vs = kk.map kV
  | [], _, h => h
  | .inl i :: kk, _, ⟨v, r, e, h1, h2⟩ => by
    subst e
    cases (show _ = _ from h1)
    rw [keyT_kV h2]; rfl
  | .inr i :: kk, _, ⟨v, r, e, h1, h2⟩ => by
    subst e
    cases (show _ = _ from h1)
    rw [keyT_kV h2]; rfl
abbrev tkey (kk : List Key) : T := .tup (kk.map keyT)
theorem keyT_inj {a b : Key} (h : keyT a = keyT b) : a = b := by
  cases a <;> cases b <;> simp [keyT] at h <;> rw [h]
theorem map_inj {α β : Type} {f : α → β} (hf : ∀ a b, f a = f b → a = b) : ∀ {xs ys : List α}, xs.map f = ys.map f → xs = ys
  | [], [], _ => rfl
  | x :: xs, y :: ys, h => by
    simp at h
    rw [hf _ _ h.1, map_inj hf h.2]
theorem tkey_inj {a b : List Key} (h : tkey a = tkey b) : a = b := by
  have h1 : a.map keyT = b.map keyT := by simpa [tkey] using h
  exact map_inj (fun _ _ => keyT_inj) h1
theorem tkeys_inj {a b : List (List Key)} (h : a.map tkey = b.map tkey) : a = b := map_inj (fun _ _ => tkey_inj) h
section
variable {K : PySem.W.Frag} {F H : Hp}
theorem Hole.turned {σ : L2.St} {A : List Addr} {put : L → HTr.S} {v : V} {l : L} {B R : List Addr} (h : Hole K F H σ A put v l B R) {F2 H2 : Hp} {l2 : L} {B2 : List Addr} (s : Same F F2) (o : On R H H2) (r : RL K F2 H2 l2 v B2) :
    ∃ A2, CS K F2 H2 (put l2) σ A2 ∧ Hole K F2 H2 σ A2 put v l2 B2 R := by
  obtain ⟨A2, a1, a2⟩ := h.fill F2 H2 l2 B2 s o r
  exact ⟨A2, a1, r, a2, fun F3 H3 l3 B3 s3 o3 r3 => by
    obtain ⟨A3, b1, b2⟩ := h.fill F3 H3 l3 B3 (s.trans s3) (fun a ha ob e n => o3 a ha ob (o a ha ob e n) n) r3
    exact ⟨A3, b1, b2⟩⟩
theorem dct_app {a : Addr} {ks : List T} {ls : List L} {B : List Addr} (h : RL K F H (.dct true ks ls) (.ref a) B) {j : Nat} {us : List L} (hj : ls[j]? = some (.lst us)) {u : L} {y : V} {C : List Addr} (hy : RL K F H u y C) (nd : (B ++ C).Nodup) :
    ∃ kvs k p xs, H a = some (.dT kvs) ∧ kvs[j]? = some (k, .ref p) ∧ p ∈ B ∧ H p = some (.lst xs) ∧ xs.length = us.length ∧
      ∃ B2, RL K F (upd H p (.lst (xs ++ [y]))) (.dct true ks (ls.set j (.lst (us ++ [u])))) (.ref a) B2 ∧ B2.Nodup ∧ ∀ b ∈ B2, b ∈ B ++ C := by
  obtain ⟨a', B', e1, eB, ⟨z, _⟩ | ⟨_, kvs, ha, ek, hv⟩⟩ := h
  · cases z
  cases e1
  obtain ⟨x, B3, R3, f1, f2, f3, f4⟩ := hv.focus hj
  obtain ⟨p, xs, B4, ex, eB3, hp, hx⟩ := f2
  subst ex eB3 eB
  have hp2 : p ∈ B' := f3.mem_iff.mpr (by simp)
  obtain ⟨k, hk⟩ : ∃ k, kvs[j]? = some (k, .ref p) := by
    rw [List.getElem?_map] at f1
    cases q : kvs[j]? with
    | none => rw [q] at f1; cases f1
    | some kv => rw [q] at f1; obtain ⟨k, v⟩ := kv; cases f1; exact ⟨k, rfl⟩
  obtain ⟨nB, nC, nBC⟩ := List.nodup_append.mp nd
  have nB' := (List.nodup_cons.mp nB).2
  have n3 := f3.nodup_iff.mp nB'
  obtain ⟨n31, n32, n33⟩ := List.nodup_append.mp n3
  have pa : a ≠ p := fun e => (List.nodup_cons.mp nB).1 (by rw [e]; exact hp2)
  have pR : p ∉ R3 := fun z => n33 p (by simp) p z rfl
  have pC : p ∉ C := fun z => nBC p (List.mem_cons_of_mem _ hp2) p z rfl
  have p4 : p ∉ B4 := (List.nodup_cons.mp n31).1
  obtain ⟨A2, g1, g2⟩ := f4 F (upd H p (.lst (xs ++ [y]))) (.lst (us ++ [u])) (p :: (B4 ++ C)) (Same.refl _) (on_upd pR) ⟨p, xs ++ [y], B4 ++ C, rfl, rfl, upd_same, RLs.app (hx.mono (Same.refl _) (on_upd p4)) ⟨y, [], C, [], rfl, by simp, hy.mono (Same.refl _) (on_upd pC), rfl, rfl⟩⟩
  have sub : ∀ b ∈ A2, b ∈ B' ++ C := fun b hb => by
    have z := g2.mem_iff.mp hb
    rcases List.mem_append.mp z with z | z
    · rcases List.mem_cons.mp z with z | z
      · rw [z]; exact List.mem_append_left _ hp2
      · rcases List.mem_append.mp z with z | z
        · exact List.mem_append_left _ (f3.mem_iff.mpr (by simp [z]))
        · exact List.mem_append_right _ z
    · exact List.mem_append_left _ (f3.mem_iff.mpr (by simp [z]))
  have nA2 : A2.Nodup := by
    refine g2.nodup_iff.mpr ?_
    have pm : (p :: (B4 ++ C) ++ R3).Perm (p :: B4 ++ R3 ++ C) := by
      simp only [List.cons_append, List.append_assoc]
      exact (List.perm_append_comm.append_left B4).cons p
    refine pm.nodup_iff.mpr (List.nodup_append.mpr ⟨n3, nC, fun q hq r hr e => ?_⟩)
    subst e
    exact nBC q (List.mem_cons_of_mem _ (f3.mem_iff.mpr hq)) q hr rfl
  refine ⟨kvs, k, p, xs, ha, hk, List.mem_cons_of_mem _ hp2, hp, hx.len, a :: A2, ⟨a, A2, rfl, rfl, .inr ⟨rfl, kvs, by rw [upd_ne pa]; exact ha, ek, g1⟩⟩, List.nodup_cons.mpr ⟨fun z => ?_, nA2⟩, fun b hb => ?_⟩
  · rcases List.mem_append.mp (sub a z) with y | y
    · exact (List.nodup_cons.mp nB).1 y
    · exact nBC a (by simp) a y rfl
  · rcases List.mem_cons.mp hb with z | z
    · rw [z]; simp
    · have := sub b z
      rw [List.cons_append]
      exact List.mem_cons_of_mem _ this
theorem dct_new {a : Addr} {ks : List T} {ls : List L} {B : List Addr} (h : RL K F H (.dct true ks ls) (.ref a) B) {p : Addr} (hp : H p = some (.lst [])) (pB : p ∉ B) {kk : List Key} (nk : tkey kk ∉ ks) (nd : B.Nodup) :
    ∃ kvs, H a = some (.dT kvs) ∧ ks = kvs.map (fun q => tkey q.1) ∧ valV kvs kk = none ∧ RL K F (upd H a (.dT (putK kvs kk (.ref p)))) (.dct true (ks ++ [tkey kk]) (ls ++ [.lst []])) (.ref a) (B ++ [p]) := by
  obtain ⟨a', B', e1, eB, ⟨z, _⟩ | ⟨_, kvs, ha, ek, hv⟩⟩ := h
  · cases z
  cases e1
  subst eB
  have na : a ∉ B' := (List.nodup_cons.mp nd).1
  have nf : ∀ q ∈ kvs, ¬ q.1 = kk := fun q hq e => nk (by rw [ek]; exact List.mem_map.mpr ⟨q, hq, by rw [e]⟩)
  have hn : valV kvs kk = none := by
    unfold valV
    rw [List.find?_eq_none.mpr fun q hq => by simpa using nf q hq]
    rfl
  have hput : putK kvs kk (.ref p) = kvs ++ [(kk, .ref p)] := by
    unfold putK
    rw [if_neg]
    simp only [List.any_eq_true, not_exists, not_and]
    exact fun q hq e => nf q hq (by simpa using e)
  have pa : p ≠ a := fun e => pB (by rw [e]; simp)
  refine ⟨kvs, ha, ek, hn, a, B' ++ [p], rfl, by simp, .inr ⟨rfl, _, upd_same, by rw [hput, List.map_append, ek]; rfl, ?_⟩⟩
  rw [hput, List.map_append]
  refine RLs.app (hv.mono (Same.refl _) (on_upd na)) ⟨.ref p, [], [p], [], rfl, rfl, ⟨p, [], [], rfl, rfl, by rw [upd_ne pa]; exact hp, rfl, rfl⟩, rfl, rfl⟩
end
def kidx {α : Type} [DecidableEq α] (ks : List α) (k : α) : Option Nat := ks.findIdx? fun x => decide (x = k)
def sSetd (p : MP) (ka : MA) (m : MA) : MS := fun e S => p S fun l put => match l with
  | .dct true ks ls => ka S fun lks _ => ∃ (kss : List (List Key)) (kk : List Key), ks = kss.map tkey ∧ L.trees lks = kk.map keyT ∧ lks.length ≤ sizeLine ∧ ks.length < sizeLine ∧ match kidx kss kk with
    | some j => match ls[j]? with
      | some (.lst us) => us.length < sizeLine ∧ m S fun zs o => o = true ∧ ∃ u, zs = [u] ∧ e.nx (put (.dct true ks (ls.set j (.lst (us ++ [u])))))
      | _ => False
    | none => m (put (.dct true (ks ++ [tkey kk]) (ls ++ [.lst []]))) fun zs o => o = true ∧ ∃ u, zs = [u] ∧ e.nx (put (.dct true (ks ++ [tkey kk]) (ls ++ [.lst [u]])))
  | _ => False
theorem valV_idx {α : Type} [DecidableEq α] {kvs : List (α × V)} {k : α} {j : Nat} (h : kidx (kvs.map (·.1)) k = some j) : ∃ v, kvs[j]? = some (k, v) ∧ valV kvs k = some v := by
  induction kvs generalizing j with
  | nil => simp [kidx] at h
  | cons kv kvs ih =>
    obtain ⟨k', v⟩ := kv
    unfold valV kidx at *
    by_cases e : k' = k
    · subst e
      simp [List.findIdx?_cons] at h
      subst h
      exact ⟨v, rfl, by simp⟩
    · simp only [List.map_cons, List.findIdx?_cons, decide_eq_true_eq, if_neg e, Option.map_eq_some_iff] at h
      obtain ⟨i, h1, h2⟩ := h
      subst h2
      obtain ⟨w, w1, w2⟩ := ih h1
      exact ⟨w, by simpa using w1, by rw [List.find?_cons_of_neg (by simpa using e)]; exact w2⟩
theorem idx_none {α : Type} [DecidableEq α] {ks : List α} {k : α} (h : kidx ks k = none) : k ∉ ks := by
  unfold kidx at h
  rw [List.findIdx?_eq_none_iff] at h
  intro z
  simpa using h k z
section
variable {X : Cx} {K : PySem.W.Frag}
theorem isD_of {F H : Hp} {b : Bool} {ks : List T} {ls : List L} {v : V} {B : List Addr} (h : RL K F H (.dct b ks ls) v B) : ∃ a, v = .ref a ∧ IsD H a := by
  obtain ⟨a, B', e, _, ⟨_, kvs, q, _⟩ | ⟨_, kvs, q, _⟩⟩ := h
  · exact ⟨a, e, .inl ⟨kvs, .inl q⟩⟩
  · exact ⟨a, e, .inr ⟨kvs, .inl q⟩⟩
theorem turn_end {F H F2 H2 Hf : Hp} {S : HTr.S} {σ : L2.St} {A B R C B2 : List Addr} {e : ET} {D : Ends} {put : L → HTr.S} {v : V} {l l2 : L} (c : Conn K EX F H A e D) (k : Ok K F H S σ A) (r : RP K F H F2 H2) (h : Hole K F2 H2 σ A put v l B R)
    (nC : C.Nodup) (fC : ∀ b ∈ C, F2 b = none ∧ H b = none) (e1 : ∀ a, a ∉ B → Hf a = H2 a) (e2 : ∀ a, H2 a ≠ none → Hf a ≠ none) (rl : RL K F2 Hf l2 v B2) (n2 : B2.Nodup) (s2 : ∀ a ∈ B2, a ∈ B ++ C) (g : e.nx (put l2)) : D.nx σ Hf := by
  have k2 := k.rp r
  have dC : ∀ x ∈ C, x ∉ A := fun x hx z => k.cs.dom x z (fC x hx).2
  obtain ⟨A2, k3, s3, t3⟩ := k2.turn h nC dC (fun x hx => (fC x hx).1) e1 e2 rl n2 s2
  refine c.nx F2 _ σ Hf A2 k3 ⟨r.ff, fun q nt n => t3 _ _ (r.hh.k q nt) n, fun z => (tab_off h.rl.plain e1).to (r.hx.t z), fun a n => e2 a (r.dom a n), fun a ha => ?_, fun a n => ?_⟩ g
  · exact (s3 a ha).elim .inl fun z => .inr (fC a z).2
  · exact (r.nw a n).elim .inl fun z => .inr (.inr z)
theorem turn_on {F H F2 H2 Hf : Hp} {S : HTr.S} {σ : L2.St} {A B R C B2 : List Addr} {put : L → HTr.S} {v : V} {l l2 : L} (k : Ok K F H S σ A) (r : RP K F H F2 H2) (h : Hole K F2 H2 σ A put v l B R)
    (nC : C.Nodup) (fC : ∀ b ∈ C, F2 b = none ∧ H b = none) (e1 : ∀ a, a ∉ B → Hf a = H2 a) (e2 : ∀ a, H2 a ≠ none → Hf a ≠ none) (rl : RL K F2 Hf l2 v B2) (n2 : B2.Nodup) (s2 : ∀ a ∈ B2, a ∈ B ++ C) :
    ∃ A2, Ok K F2 Hf (put l2) σ A2 ∧ Hole K F2 Hf σ A2 put v l2 B2 R ∧ Step K F H A F2 Hf A2 := by
  have k2 := k.rp r
  have dC : ∀ x ∈ C, x ∉ A := fun x hx z => k.cs.dom x z (fC x hx).2
  have nd := h.pm.nodup_iff.mp k.nd
  obtain ⟨nB, nR, nBR⟩ := List.nodup_append.mp nd
  have inA : ∀ a, a ∈ B ∨ a ∈ R → a ∈ A := fun a z => h.pm.mem_iff.mpr (List.mem_append.mpr z)
  have oR : On R H2 Hf := fun a ha o q _ => by rw [e1 a (fun z => nBR a z a ha rfl)]; exact q
  obtain ⟨A2, a1, h2⟩ := h.turned (Same.refl _) oR rl
  have a2 := h2.pm
  have sub : ∀ a ∈ A2, a ∈ A ∨ a ∈ C := fun a ha => by
    rcases List.mem_append.mp (a2.mem_iff.mp ha) with z | z
    · rcases List.mem_append.mp (s2 a z) with y | y
      · exact .inl (inA a (.inl y))
      · exact .inr y
    · exact .inl (inA a (.inr z))
  have fh2 : Same F2 Hf := ⟨fun {a o} q n => by
    have na : a ∉ B := fun z => by
      have := k2.nf a (inA a (.inl z))
      rw [q] at this; cases this
    rw [e1 a na]
    exact k2.fh.k q n, fun {a} n => e2 a (k2.fh.d n)⟩
  refine ⟨A2, ⟨fh2, a1, a2.nodup_iff.mpr (List.nodup_append.mpr ⟨n2, nR, fun a ha b hb e => ?_⟩), fun a ha => ?_, k2.tb.on (tab_off h.rl.plain e1).to⟩, h2, r.ff, fun {a o} q nt n => ?_, fun z => (tab_off h.rl.plain e1).to (r.hx.t z), fun a n => e2 a (r.dom a n), fun a ha => ?_, fun a n => ?_⟩
  · subst e
    rcases List.mem_append.mp (s2 a ha) with y | y
    · exact nBR a y a hb rfl
    · exact dC a y (inA a (.inr hb))
  · rcases sub a ha with z | z
    · exact k2.nf a z
    · exact (fC a z).1
  · rw [e1 a (fun z => n (inA a (.inl z)))]
    exact r.hh.k q nt
  · exact (sub a ha).elim .inl fun z => .inr (fC a z).2
  · exact (r.nw a n).elim .inl fun z => .inr (.inr z)
theorem ls_setd {st : Stmt} {p : MP} {ka m : MA} (h : PS X st (tDrop (tBM K "list" rAppend (tDSetdT (liftP K p) (tTup (liftA K ka)) (tLst tNil)) (liftA K m)))) : PS X st (liftS K EX (sSetd p ka m)) := psW h fun D σ H ⟨F, S, A, k, e, q, c⟩ =>
  ⟨F, S, A, _, k, q, fun l put g v F1 H1 B R r1 h1 => by
    split at g
    · rename_i ks ls
      obtain ⟨a, ev, hD⟩ := isD_of h1.rl
      subst ev
      refine ⟨a, rfl, hD, F1, S, A, _, k.rp r1, g, fun lks ok g vks F2 H2 C2 r2 h2 _ => ?_⟩
      obtain ⟨kss, kk, ek, ekk, hlen, hks, g⟩ := g
      have hvk : vks = kk.map kV := by
        have z := h2.tree (F' := H2) r2.fh (fun _ _ _ e _ => e)
        rw [ekk] at z
        exact keyT_kV z
      refine ⟨by rw [h2.len]; exact hlen, fun t ht => ⟨Nat.zero_le _, fun p0 hp0 => ?_⟩⟩
      have r3 := RP.new (K := K) r2.fh (.tup vks) ht
      have r4 := RP.new (K := K) r3.fh (.lst []) hp0
      have r03 := (r1.trans r2).trans r3
      have rr := r03.trans r4
      have h4 := ((h1.rp r2).rp r3).rp r4
      have k4 := k.rp rr
      have np : t ≠ p0 := fun e => by rw [e, upd_same] at hp0; cases hp0
      have inA : ∀ b, b ∈ B → b ∈ A := fun b z => h1.pm.mem_iff.mpr (List.mem_append_left _ z)
      obtain ⟨nB, nR, nBR⟩ := List.nodup_append.mp (h1.pm.nodup_iff.mp k.nd)
      have p0A : p0 ∉ A := fun z => (k.rp r03).cs.dom p0 z hp0
      have hH0 : H p0 = none := none_of_dom r03.dom hp0
      have hF0 : F2 p0 = none := Same.no r3.fh hp0
      have ht4 : upd (upd H2 t (.tup vks)) p0 (.lst []) t = some (.tup (kk.map kV)) := by rw [upd_ne np, upd_same, hvk]
      have hp4 : upd (upd H2 t (.tup vks)) p0 (.lst []) p0 = some (.lst []) := upd_same
      revert r4 rr h4 k4 ht4 hp4
      generalize upd (upd H2 t (.tup vks)) p0 (.lst []) = H4
      intro r4 rr h4 k4 ht4 hp4
      split at g
      · rename_i j ej
        split at g
        · rename_i us eu
          obtain ⟨hz, g⟩ := g
          obtain ⟨kvs, k0, p, xs, y1, y2, y3, y4, y5, _⟩ := dct_app (u := .fz .non) (y := .non) (C := []) h4.rl eu ⟨rfl, rfl⟩ (by rw [List.append_nil]; exact nB)
          obtain ⟨a', B', e1, eB, ⟨z, _⟩ | ⟨_, kvs', ha', ek2, _⟩⟩ := h4.rl
          · cases z
          cases e1
          rw [y1] at ha'
          cases ha'
          have ekv : kss = kvs.map (·.1) := tkeys_inj (by rw [← ek, ek2, List.map_map]; rfl)
          rw [ekv] at ej
          obtain ⟨v0, v1, v2⟩ := valV_idx ej
          rw [y2] at v1
          cases v1
          refine ⟨kvs, kk, t, y1, rfl, ht4, by rw [ek2, List.length_map] at hks; exact hks, fun v hv => ?_, fun hv => by rw [v2] at hv; cases hv⟩
          rw [v2] at hv
          cases hv
          refine ⟨.inl ⟨rfl, xs, .inl (.inl y4)⟩, F2, S, A, _, k4, g, fun zs o ⟨eo, u, ez, gn⟩ ws F5 H5 C5 r5 h5 o5 => ?_⟩
          subst ez
          obtain ⟨y, ey, hy⟩ := h5.one
          subst ey
          obtain ⟨nC, fC⟩ := o5 eo
          have h5' := h4.rp r5
          have dC : ∀ x ∈ C5, x ∉ A := fun x hx z => k4.cs.dom x z (fC x hx).2
          obtain ⟨kvs5, k5, p5, xs5, z1, z2, z3, z4, z5, B5, z6, z7, z8⟩ := dct_app h5'.rl eu hy (List.nodup_append.mpr ⟨nB, nC, fun a ha b hb e => by subst e; exact dC a hb (inA a ha)⟩)
          rw [r5.hh.g y1] at z1
          cases z1
          rw [y2] at z2
          cases z2
          exact ⟨p, xs5, y, rfl, rfl, z4, by rw [z5]; exact hz, turn_end c k (rr.trans r5) h5' nC (fun b hb => ⟨(fC b hb).1, none_of_dom rr.dom (fC b hb).2⟩) (fun x hx => upd_ne fun e => hx (by rw [e]; exact z3)) upd_dom z6 z7 z8 gn⟩
        · exact g.elim
      · rename_i ej
        have nk : tkey kk ∉ ks := fun z => by
          rw [ek] at z
          obtain ⟨q, hq, eq⟩ := List.mem_map.mp z
          rw [← tkey_inj eq] at ej
          exact idx_none ej hq
        obtain ⟨kvs, y1, y2, y3, y4⟩ := dct_new h4.rl hp4 (fun z => p0A (inA p0 z)) nk nB
        have aB : a ∈ B := by
          obtain ⟨a', B', e1, eB, _⟩ := h4.rl
          cases e1
          rw [eB]; simp
        have nBp : (B ++ [p0]).Nodup := List.nodup_append.mpr ⟨nB, by simp, fun x hx b hb e => by
          have : b = p0 := by simpa using hb
          subst this
          subst e
          exact p0A (inA x hx)⟩
        refine ⟨kvs, kk, t, y1, rfl, ht4, by rw [y2, List.length_map] at hks; exact hks, fun v hv => (by rw [y3] at hv; cases hv), fun _ => ?_⟩
        obtain ⟨A6, k6, h6, t6⟩ := turn_on k rr h4 (C := [p0]) (by simp) (fun b hb => by
          have : b = p0 := by simpa using hb
          subst this
          exact ⟨hF0, hH0⟩) (fun x hx => upd_ne fun e => hx (by rw [e]; exact aB)) upd_dom y4 nBp (fun b hb => hb)
        have pa : p0 ≠ a := fun e => p0A (inA p0 (by rw [e]; exact aB))
        refine ⟨.inl ⟨rfl, [], .inl (.inl (by rw [upd_ne pa]; exact hp4))⟩, F2, _, A6, _, k6, g, fun zs o ⟨eo, u, ez, gn⟩ ws F5 H5 C5 r5 h5 o5 => ?_⟩
        subst ez
        obtain ⟨y, ey, hy⟩ := h5.one
        subst ey
        obtain ⟨nC, fC⟩ := o5 eo
        have h5' := h6.rp r5
        have inA6 : ∀ b, b ∈ B ++ [p0] → b ∈ A6 := fun b z => h6.pm.mem_iff.mpr (List.mem_append_left _ z)
        have dC : ∀ x ∈ C5, x ∉ A6 := fun x hx z => k6.cs.dom x z (fC x hx).2
        have ej2 : (ls ++ [L.lst []])[ls.length]? = some (.lst []) := by simp
        obtain ⟨kvs5, k5, p5, xs5, z1, z2, z3, z4, z5, B5, z6, z7, z8⟩ := dct_app h5'.rl ej2 hy (List.nodup_append.mpr ⟨nBp, nC, fun a ha b hb e => by subst e; exact dC a hb (inA6 a ha)⟩)
        rw [r5.hh.g upd_same] at z1
        cases z1
        have hput : putK kvs kk (V.ref p0) = kvs ++ [(kk, .ref p0)] := by
          unfold putK
          rw [if_neg]
          simp only [List.any_eq_true, not_exists, not_and]
          exact fun q hq e => nk (by rw [y2]; exact List.mem_map.mpr ⟨q, hq, by rw [show q.1 = kk from by simpa using e]⟩)
        have eln : ls.length = kvs.length := by
          obtain ⟨a', B', e1, eB, ⟨z, _⟩ | ⟨_, kvs', ha', ek2, hv⟩⟩ := h4.rl
          · cases z
          cases e1
          rw [y1] at ha'
          cases ha'
          have := hv.len
          rw [List.length_map] at this
          exact this.symm
        rw [hput, eln] at z2
        simp at z2
        obtain ⟨_, z2⟩ := z2
        subst z2
        have es : (ls ++ [L.lst []]).set ls.length (.lst ([] ++ [u])) = ls ++ [.lst [u]] := by simp
        rw [es] at z6
        exact ⟨p0, xs5, y, rfl, rfl, z4, by rw [z5]; decide, turn_end (c.on t6) k6 r5 h5' nC fC (fun x hx => upd_ne fun e => hx (by rw [e]; exact z3)) upd_dom z6 z7 z8 gn⟩
    · exact g.elim⟩
end
end HTr
namespace HTr
open PySem L2 PyProof.Rows PyProof.Rows.G
abbrev CK := Int ⊕ List Nat
def ckey : Key → CK
  | .inl i => .inl i
  | .inr x => .inr x.cps.toList
def shp (shape : Nat → Bool) : Nat → List Key → Bool
  | _, [] => true
  | i, .inl _ :: ks => !shape i && shp shape (i + 1) ks
  | i, .inr _ :: ks => shape i && shp shape (i + 1) ks
def clt (a b : List CK) : Bool := lexLt itemOrd a b
theorem tupItems_of {shape : Nat → Bool} : ∀ {ks : List Key} {us : List Value} (i : Nat), Vals (ks.map kV) us → shp shape i ks = true → tupItems shape i us = some (ks.map ckey)
  | [], _, i, .nil, _ => rfl
  | .inl n :: ks, _, i, .cons r t, h => by
    obtain ⟨tk, rfl⟩ := r
    unfold shp at h
    rw [Bool.and_eq_true] at h
    have h1 : ¬ shape i = true := by have := h.1; simpa using this
    unfold tupItems
    rw [if_neg h1, tupItems_of (i + 1) t h.2]
    rfl
  | .inr n :: ks, _, i, .cons r t, h => by
    obtain ⟨tk, rfl⟩ := r
    unfold shp at h
    rw [Bool.and_eq_true] at h
    unfold tupItems
    rw [if_pos h.1, tupItems_of (i + 1) t h.2]
    rfl
noncomputable def keyOf (h : Heap) (shape : Nat → Bool) (u : Value) : List CK := (tupKeyC h shape u).getD []
theorem perm_map_inv {α β : Type} {f : α → β} {zs : List β} : ∀ {xs : List α}, zs.Perm (xs.map f) → ∃ ys : List α, ys.Perm xs ∧ zs = ys.map f := by
  intro xs h
  generalize e : xs.map f = ws at h
  induction h generalizing xs with
  | nil =>
    have : xs = [] := by simpa using e
    subst this
    exact ⟨[], .refl _, rfl⟩
  | @cons w l1 l2 _ ih =>
    cases xs with
    | nil => cases e
    | cons x xs =>
      simp at e
      obtain ⟨e1, e2⟩ := e
      obtain ⟨ys, h1, h2⟩ := ih e2
      subst e1 h2
      exact ⟨x :: ys, h1.cons x, rfl⟩
  | @swap w1 w2 l =>
    match xs, e with
    | x :: y :: xs, e =>
      simp at e
      obtain ⟨e1, e2, e3⟩ := e
      subst e1 e2 e3
      exact ⟨y :: x :: xs, .swap _ _ _, rfl⟩
    | [x], e => simp at e
    | [], e => simp at e
  | @trans l1 l2 l3 _ _ ih1 ih2 =>
    obtain ⟨ys, h1, h2⟩ := ih2 e
    obtain ⟨zs, h3, h4⟩ := ih1 h2.symm
    exact ⟨zs, h3.trans h1, h4⟩
def rSortedTG (K : PySem.W.Frag) : List V → Hp → VK → Prop := fun vs H Q => ∃ (a : Addr) (xs : List V) (css : List (List CK)) (shape : Nat → Bool), vs = [V.ref a] ∧ SqL K H a xs ∧ xs.length = css.length ∧
  (∀ p ∈ xs.zip css, ∃ (t : Addr) (kk : List Key), p.1 = .ref t ∧ SqT K H t (kk.map kV) ∧ p.2 = kk.map ckey ∧ shp shape 0 kk = true ∧ kk ≠ []) ∧
  ∀ (zs : List (V × List CK)) (p : Addr), zs.Perm (xs.zip css) → zs.Pairwise (fun x y => clt y.2 x.2 = false) → H p = none → Q (.ref p) (upd H p (.lst (zs.map (·.1))))
theorem TupsOf_of {h : Heap} {shape : Nat → Bool} : ∀ {vs : List Value}, (∀ v ∈ vs, ∃ f, TupOf h shape v f) → ∃ fs, TupsOf h shape vs fs
  | [], _ => ⟨[], .nil⟩
  | v :: vs, g => by
    obtain ⟨f, hf⟩ := g v List.mem_cons_self
    obtain ⟨fs, hfs⟩ := TupsOf_of fun u hu => g u (List.mem_cons_of_mem _ hu)
    exact ⟨f :: fs, .cons hf hfs⟩
section
variable {X : Cx}
theorem zip_of {h : Heap} {shape : Nat → Bool} {K : PySem.W.Frag} {P : V × List CK → Prop} (f : Value → V × List CK) (hf : ∀ x u c, P (x, c) → RelV x u → f u = (x, c)) : ∀ {xs : List V} {us : List Value} {cs : List (List CK)}, Vals xs us → xs.length = cs.length → (∀ p ∈ xs.zip cs, P p) → xs.zip cs = us.map f
  | _, _, [], .nil, _, _ => rfl
  | _, _, c :: cs, .cons r t, hl, hp => by
    rw [List.zip_cons_cons, List.map_cons, hf _ _ c (hp _ (by simp)) r, zip_of (h := h) (shape := shape) (K := K) (P := P) f hf t (by simpa using hl) fun p hm => hp p (by simp [hm])]
  | _, _, [], .cons r t, hl, _ => by simp at hl
  | _, _, c :: cs, .nil, hl, _ => by simp at hl
theorem mem_zip_vals {xs : List V} {us : List Value} {cs : List (List CK)} (r : Vals xs us) (hl : xs.length = cs.length) : ∀ u ∈ us, ∃ x c, (x, c) ∈ xs.zip cs ∧ RelV x u := by
  induction r generalizing cs with
  | nil => intro u hu; cases hu
  | @cons x u xs us rx t ih =>
    intro v hv
    cases cs with
    | nil => simp at hl
    | cons c cs =>
      rcases List.mem_cons.mp hv with e | hv
      · subst e; exact ⟨x, c, by simp, rx⟩
      · obtain ⟨y, d, h1, h2⟩ := ih (by simpa using hl) v hv
        exact ⟨y, d, by simp [h1], h2⟩
theorem cr_sortedTG : CallR X (.builtin "sorted") (rSortedTG X.K) := by
  intro pins s σ H vs us Q I r h
  obtain ⟨a, xs, css, shape, rfl, hs, hlen, hx, q⟩ := h
  obtain ⟨its, rv, hl, hz⟩ := I.list hs
  obtain ⟨u, rfl, ru⟩ := vals1 r
  obtain rfl : u = Value.ref a := ru
  have key : ∀ x v c, (∃ (t : Addr) (kk : List Key), x = .ref t ∧ SqT X.K H t (kk.map kV) ∧ c = kk.map ckey ∧ shp shape 0 kk = true ∧ kk ≠ []) → RelV x v →
      v = (match x with | .ref t => Value.ref t | _ => Value.none) ∧ tupKeyC s.heap shape v = some c ∧ ∃ f, TupOf s.heap shape v f := by
    rintro x v c ⟨t, kk, rfl, hq, rfl, hsh, hne⟩ rx
    obtain rfl : v = Value.ref t := rx
    obtain ⟨its2, r2, ⟨o, ho, hc, n, hd⟩, _⟩ := I.tuple hq
    refine ⟨rfl, ?_, ?_⟩
    · unfold tupKeyC
      have h1 : isTupObj s.heap (Value.ref t) = true := by simp [isTupObj, ho, hc]
      rw [if_pos h1]
      unfold tupKey
      simp only [ho, hd]
      simpa using tupItems_of 0 r2 hsh
    · cases kk with
      | nil => exact absurd rfl hne
      | cons k kk =>
        cases r2 with
        | @cons _ f _ fs rk rr =>
          refine ⟨f, t, o, _, n, rfl, ho, hc, hd, by simp, fun e => ?_, fun e => ?_⟩
          · cases k with
            | inl i => exact ⟨i, rk⟩
            | inr z => simp [shp, e] at hsh
          · cases k with
            | inl i => simp [shp, e] at hsh
            | inr z => exact ⟨z, rk⟩
  have all : ∀ v ∈ its, ∃ x c, (x, c) ∈ xs.zip css ∧ RelV x v := mem_zip_vals rv hlen
  have hT : ∀ v ∈ its, ∃ f, TupOf s.heap shape v f := fun v hv => by
    obtain ⟨x, c, hm, rx⟩ := all v hv
    exact (key x v c (hx _ hm) rx).2.2
  obtain ⟨fs, hfs⟩ := TupsOf_of hT
  have hK : ∀ v, v ∈ its → ∃ l, tupKeyC s.heap shape v = some l := fun v hv => by
    obtain ⟨x, c, hm, rx⟩ := all v hv
    exact ⟨c, (key x v c (hx _ hm) rx).2.1⟩
  have hzip : xs.zip css = its.map fun u => (backV u, keyOf s.heap shape u) := by
    refine zip_of (h := s.heap) (shape := shape) (K := X.K) (P := fun p => ∃ (t : Addr) (kk : List Key), p.1 = .ref t ∧ SqT X.K H t (kk.map kV) ∧ p.2 = kk.map ckey ∧ shp shape 0 kk = true ∧ kk ≠ []) _ (fun x u c hp rx => ?_) rv hlen hx
    obtain ⟨h1, h2, _⟩ := key x u c hp rx
    obtain ⟨t, _, e, _⟩ := hp
    have e' : x = .ref t := e
    subst e' h1
    unfold keyOf
    rw [h2]
    rfl
  refine sorted_tups (shape := shape) (vs := its) (fs := fs) hl.isList hfs hK (by rw [← rv.length]; exact hz) fun st' hp hsrt _ => ?_
  obtain ⟨n, hn⟩ := sortedAll_at s.heap its ((arrOf st').map (·.2))
  have hpl : (arrOf st').toList.Perm (its.zip its) := by
    have := hp.toList
    rwa [pairsOf_toList] at this
  have diag : ∀ p ∈ (arrOf st').toList, p.1 = p.2 := fun p hm => by
    have := hpl.mem_iff.mp hm
    exact (mem_zip_self (p := p) this).1 |> fun z => by first | exact z | exact z.symm
  let out := (arrOf st').toList.map (·.2)
  have hout : out.Perm its := by
    have := hpl.map (·.2)
    have e : (its.zip its).map (·.2) = its := by
      rw [List.map_snd_zip]
      exact Nat.le_refl _
    rw [e] at this
    exact this
  have hrefs : ∀ u ∈ out, ∃ a, u = Value.ref a := fun u hu => by
    obtain ⟨x, c, hm, rx⟩ := all u (hout.mem_iff.mp hu)
    obtain ⟨t, _, e, _⟩ := hx _ hm
    have e' : x = .ref t := e
    subst e'
    exact ⟨t, rx⟩
  have hpz : (out.map fun u => (backV u, keyOf s.heap shape u)).Perm (xs.zip css) := by rw [hzip]; exact hout.map _
  have hpw : (out.map fun u => (backV u, keyOf s.heap shape u)).Pairwise (fun x y => clt y.2 x.2 = false) := by
    rw [List.pairwise_map, List.pairwise_iff_getElem]
    intro i j hi hj hij
    have li : i < (arrOf st').size := by simpa [out] using hi
    have lj : j < (arrOf st').size := by simpa [out] using hj
    have sz : (arrOf st').size = (pairsOf its).size := by
      have := hp.size_eq
      exact this
    have z := hsrt i j (Nat.le_of_lt hij) (by omega)
    have kk : ∀ i (l : i < (arrOf st').size), KK (tupKindC s.heap shape) (arrOf st') i = keyOf s.heap shape ((arrOf st')[i].2) := fun i l => by
      unfold KK keyOf
      rw [Array.getElem?_eq_getElem l]
      have d := diag (arrOf st')[i] (by simp)
      simp only [d]
    rw [kk i li, kk j lj] at z
    show clt (keyOf s.heap shape out[j]) (keyOf s.heap shape out[i]) = false
    have e1 : ∀ i (l : i < (arrOf st').size) (l' : i < out.length), out[i] = (arrOf st')[i].2 := fun i l l' => by simp [out]
    rw [e1 i li hi, e1 j lj hj]
    exact z
  have e3 : ((arrOf st').map (·.2)).toList = out := by simp [out]
  have hm2 : (out.map fun u => (backV u, keyOf s.heap shape u)).map (·.1) = out.map backV := by rw [List.map_map]; rfl
  have hd : s.heap.objs.size ≤ s.heap.objs.size + 1 := Nat.le_succ _
  have fin := q _ (s.heap.objs.size + 1) hpz hpw (I.hok.fresh hd)
  rw [hm2] at fin
  refine ⟨.ref (s.heap.objs.size + 1), upd H (s.heap.objs.size + 1) (.lst (out.map backV)), I.laid (t' := s.toks) (fun b o e => sortedAll_old e) hd ⟨?_, out, n, vals_back hrefs, ?_⟩, rfl, fin⟩
  · rw [List.length_map, hout.length_eq, ← rv.length]; exact hz
  · rw [hn, ← e3]
    try simp [seqObj]
    try rfl
end
end HTr
namespace HTr
open L2
def geo : Nat → Nat
  | 0 => 0
  | n + 1 => 5 * geo n + 1
theorem geo_succ (n : Nat) : geo (n + 1) = 5 * geo n + 1 := rfl
theorem geo_pow (n : Nat) : 5 ^ n = 4 * geo n + 1 := by
  induction n with
  | zero => rfl
  | succ n ih => rw [Nat.pow_succ, ih, geo_succ]; omega
theorem geo_par (n : Nat) : geo n % 2 = n % 2 := by
  induction n with
  | zero => rfl
  | succ n ih => rw [geo_succ]; omega
theorem geo_add (a b : Nat) : geo (a + b) = 5 ^ a * geo b + geo a := by
  induction a with
  | zero => simp [geo]
  | succ a ih =>
    have e : a + 1 + b = (a + b) + 1 := by omega
    have z : 5 ^ a * 5 * geo b = 5 ^ a * geo b * 5 := Nat.mul_right_comm _ _ _
    rw [e, geo_succ, geo_succ, ih, Nat.pow_succ]
    omega
theorem odd_dvd {k a b : Nat} (h : 2 ^ k ∣ a * b) (hb : b % 2 = 1) : 2 ^ k ∣ a := by
  have c : Nat.Coprime (2 ^ k) b := by
    refine Nat.Coprime.pow_left k ?_
    rw [Nat.coprime_comm]
    unfold Nat.Coprime
    rw [Nat.gcd_comm, Nat.gcd_rec, hb]
    rfl
  exact c.dvd_of_dvd_mul_right h
theorem geo_dvd : ∀ (k n : Nat), 2 ^ k ∣ geo n → 2 ^ k ∣ n
  | 0, n, _ => by simp
  | k + 1, n, h => by
    have ev : n % 2 = 0 := by
      have h2 : 2 ∣ geo n := Nat.dvd_trans ⟨2 ^ k, by rw [Nat.pow_succ, Nat.mul_comm]⟩ h
      have := geo_par n
      omega
    obtain ⟨e, rfl⟩ : ∃ e, n = e + e := ⟨n / 2, by omega⟩
    have d : geo (e + e) = geo e * (2 * geo e + 1) * 2 := by
      rw [geo_add, geo_pow]
      generalize geo e = g
      have z1 : 4 * g * g = 4 * (g * g) := Nat.mul_assoc _ _ _
      have z2 : g * (2 * g) = 2 * (g * g) := Nat.mul_left_comm _ _ _
      rw [Nat.add_mul, Nat.mul_add, z1, z2]
      omega
    rw [d, Nat.pow_succ] at h
    have h3 : 2 ^ k ∣ geo e * (2 * geo e + 1) := Nat.dvd_of_mul_dvd_mul_right (by decide) h
    have h4 := geo_dvd k e (odd_dvd h3 (by omega))
    rw [Nat.pow_succ]
    obtain ⟨q, hq⟩ := h4
    exact ⟨q, by rw [Nat.mul_right_comm]; omega⟩
def stp (i : Nat) (n : Nat) : Nat := 5 ^ n * i + geo n
theorem lcgI_stp (m i : Nat) (hi : i ≤ m) : ∀ n, lcgI m i n = stp i n % (m + 1)
  | 0 => by
    show i = stp i 0 % (m + 1)
    unfold stp geo
    rw [Nat.pow_zero, Nat.one_mul, Nat.add_zero, Nat.mod_eq_of_lt (by omega)]
  | n + 1 => by
    show (lcgI m i n * 5 + 1) % (m + 1) = _
    rw [lcgI_stp m i hi n]
    have e : stp i (n + 1) = stp i n * 5 + 1 := by
      unfold stp
      have : 5 ^ n * 5 * i = 5 ^ n * i * 5 := Nat.mul_right_comm _ _ _
      rw [Nat.pow_succ, geo_succ]
      omega
    rw [e, Nat.add_mod, Nat.mul_mod, Nat.mod_mod, ← Nat.mul_mod, ← Nat.add_mod]
theorem stp_inj {k i a b : Nat} (hab : a ≤ b) (hb : b < 2 ^ k) (e : stp i a % 2 ^ k = stp i b % 2 ^ k) : a = b := by
  obtain ⟨d, rfl⟩ := Nat.exists_eq_add_of_le hab
  have ex : stp i (a + d) = stp i a + 5 ^ a * (geo d * (4 * i + 1)) := by
    unfold stp
    rw [geo_add, Nat.pow_add, geo_pow d]
    have : 5 ^ a * (4 * geo d + 1) * i = 5 ^ a * (geo d * (4 * i)) + 5 ^ a * i := by
      rw [Nat.mul_assoc, Nat.add_mul, Nat.one_mul, Nat.mul_add]
      congr 2
      rw [Nat.mul_left_comm, Nat.mul_assoc]
    rw [this, Nat.mul_add (geo d), Nat.mul_one, Nat.mul_add]
    omega
  have dv : 2 ^ k ∣ 5 ^ a * (geo d * (4 * i + 1)) := by
    rw [ex] at e
    have := Nat.dvd_of_mod_eq_zero (Nat.sub_mod_eq_zero_of_mod_eq e.symm)
    rwa [Nat.add_sub_cancel_left] at this
  rw [Nat.mul_comm] at dv
  have o5 : 5 ^ a % 2 = 1 := by rw [geo_pow]; omega
  have dv2 := odd_dvd dv o5
  have dv3 := odd_dvd dv2 (by omega)
  have dv4 := geo_dvd k d dv3
  rcases Nat.eq_zero_or_pos d with z | z
  · omega
  · have := Nat.le_of_dvd z dv4
    omega
theorem lcg_meets {m k : Nat} (hm : m + 1 = 2 ^ k) {i j : Nat} (hi : i ≤ m) (hj : j ≤ m) : ∃ n, n ≤ m ∧ lcgI m i n = j := by
  refine Classical.byContradiction fun no => ?_
  have nd : ((List.range (m + 1)).map fun n => stp i n % (m + 1)).Nodup := by
    refine List.pairwise_map.mpr (List.Pairwise.imp_of_mem (fun {a b} ha hb lt e => ?_) List.pairwise_lt_range)
    have hb2 := List.mem_range.mp hb
    rw [hm] at e hb2
    exact absurd (stp_inj (Nat.le_of_lt lt) hb2 e) (Nat.ne_of_lt lt)
  have sub : ∀ x ∈ (List.range (m + 1)).map fun n => stp i n % (m + 1), x ∈ (List.range (m + 1)).erase j := by
    intro x hx
    obtain ⟨n, hn, rfl⟩ := List.mem_map.mp hx
    have ne : stp i n % (m + 1) ≠ j := fun e => no ⟨n, by have := List.mem_range.mp hn; omega, by rw [lcgI_stp m i hi]; exact e⟩
    exact (List.mem_erase_of_ne ne).mpr (List.mem_range.mpr (Nat.mod_lt _ (by omega)))
  have len := nat_nodup_len _ _ nd sub
  rw [List.length_map, List.length_range, List.length_erase_of_mem (List.mem_range.mpr (by omega)), List.length_range] at len
  omega
theorem runs_meet {m k : Nat} (hm : m + 1 = 2 ^ k) (h : Int) {j : Nat} (hj : j ≤ m) : ∃ n, n ≤ m + 12 ∧ runI m (PySem.SetTable.bits h) n = j := by
  obtain ⟨n, hn, e⟩ := lcg_meets hm (runI_le m (PySem.SetTable.bits h) 12) hj
  exact ⟨12 + n, by omega, (runI_tail (bits_lt h) n).trans e⟩
theorem ways_meet {m k : Nat} (hm : m + 1 = 2 ^ k) (h : Int) {j : Nat} (hj : j ≤ m) : ∃ n, n < 10 * PySem.SetTable.turns m ∧ way m h n = j := by
  obtain ⟨r, hr, e⟩ := runs_meet hm h hj
  obtain ⟨n, hn, e2⟩ := run_nth m (PySem.SetTable.bits h) r
  refine ⟨n, by unfold PySem.SetTable.turns; omega, ?_⟩
  show (nth m (runAt m (PySem.SetTable.bits h % (m + 1)) (PySem.SetTable.bits h)) n).j = j
  rw [e2]
  exact e
open PySem in
theorem way_in {m : Nat} {h : Int} {n : Nat} : way m h n ≤ m := by
  have b : SetTable.bits h % (m + 1) ≤ m := Nat.le_of_lt_succ (Nat.mod_lt _ (Nat.succ_pos _))
  have e := (runEnd_bd b).1
  have z := nth_in (m := m) n (runAt m (SetTable.bits h % (m + 1)) (SetTable.bits h)) (by
    show SetTable.bits h % (m + 1) + (SetTable.runEnd m (SetTable.bits h % (m + 1)) - SetTable.bits h % (m + 1)) ≤ m
    have := (runEnd_bd b).2.1
    omega)
  exact Nat.le_trans (Nat.le_add_right _ _) z
section
open PySem
variable {m k : Nat}
theorem free_at (hm : m + 1 = 2 ^ k) (own : Array (Option Nat)) (h : Int) {j : Nat} (hj : j ≤ m) (free : oAt own j = none) :
    ∃ n, SetTable.layClean.free m own (SetTable.turns m) (SetTable.bits h % (m + 1)) (SetTable.bits h) = some (way m h n) ∧ oAt own (way m h n) = none ∧ ∀ q, q < n → oAt own (way m h q) ≠ none := by
  obtain ⟨r, hr, e⟩ := runs_meet hm h hj
  have there : oAt own (way m h (off m (SetTable.bits h % (m + 1)) (SetTable.bits h) r)) = none := by
    have : way m h (off m (SetTable.bits h % (m + 1)) (SetTable.bits h) r) = j := by
      show (nth m (runAt m (SetTable.bits h % (m + 1)) (SetTable.bits h)) (off m (SetTable.bits h % (m + 1)) (SetTable.bits h) r)).j = j
      rw [nth_off, itL_run]
      exact e
    rw [this]
    exact free
  obtain ⟨n, le, at_n, least⟩ := st_least (p := fun q => oAt own (way m h q) = none) _ there
  refine ⟨n, free_spec m own (SetTable.turns m) r _ _ n (by unfold SetTable.turns; omega) le (fun q hq => ?_) ?_, at_n, least⟩
  · exact Option.isNone_eq_false_iff.mpr (Option.isSome_iff_ne_none.mpr (least q hq))
  · exact Option.isNone_iff_eq_none.mpr at_n
theorem own_more (hm : m + 1 = 2 ^ k) {done : List Int} {own : Array (Option Nat)} (W : Own m done own) (room : done.length ≤ m) (h : Int) :
    ∃ j, SetTable.layClean.free m own (SetTable.turns m) (SetTable.bits h % (m + 1)) (SetTable.bits h) = some j ∧ Own m (done ++ [h]) (own.setIfInBounds j (some done.length)) := by
  obtain ⟨taken, lt, inT⟩ := W.ps
  obtain ⟨j, hj, notT⟩ := st_missing taken (m + 1) (by omega)
  have free : oAt own j = none := Classical.byContradiction fun z => notT (inT j (by omega) z)
  obtain ⟨n, f1, f2, f3⟩ := free_at hm own h (Nat.le_of_lt_succ hj) free
  have inB : way m h n < own.size := by rw [W.sz]; exact Nat.lt_succ_of_le way_in
  have new := oAt_set_self (some done.length) inB
  have old : ∀ {i}, i ≠ way m h n → oAt (own.setIfInBounds (way m h n) (some done.length)) i = oAt own i := fun ne => oAt_set_ne _ ne
  have full : ∀ {i}, oAt own i ≠ none → oAt (own.setIfInBounds (way m h n) (some done.length)) i ≠ none := fun {i} z => by
    by_cases e : i = way m h n
    · subst e; rw [new]; simp
    · rw [old e]; exact z
  refine ⟨_, f1, ⟨by rw [Array.size_setIfInBounds, W.sz], fun i q hi e => ?_, fun q hq => ?_, ⟨way m h n :: taken, by simp [lt], fun i hi e => ?_⟩⟩⟩
  · by_cases c : i = way m h n
    · subst c
      rw [new] at e
      cases e
      exact ⟨h, n, by simp, rfl, fun q hq => full (f3 q hq)⟩
    · rw [old c] at e
      obtain ⟨h', n', g1, g2, g3⟩ := W.at_ i q hi e
      refine ⟨h', n', ?_, g2, fun q hq => full (g3 q hq)⟩
      rw [List.getElem?_append_left (by
        rcases Nat.lt_or_ge q done.length with z | z
        · exact z
        · rw [List.getElem?_eq_none z] at g1; cases g1)]
      exact g1
  · rcases Nat.lt_or_ge q done.length with z | z
    · obtain ⟨i, hi, e⟩ := W.all q z
      exact ⟨i, hi, by rw [old fun y => by rw [y, f2] at e; cases e]; exact e⟩
    · have eq : q = done.length := by simp at hq; omega
      subst eq
      exact ⟨_, way_in, new⟩
  · by_cases c : i = way m h n
    · subst c; exact List.mem_cons_self
    · rw [old c] at e
      exact List.mem_cons_of_mem _ (inT i hi e)
theorem lays_all (hm : m + 1 = 2 ^ k) : ∀ (rest done : List Int) (own : Array (Option Nat)), Own m done own → done.length + rest.length ≤ m →
    ∃ own', rest.foldl (stepF m) (some (own, done.length)) = some (own', (done ++ rest).length) ∧ Own m (done ++ rest) own'
  | [], done, own, W, _ => ⟨own, by simp, by simpa using W⟩
  | h :: rest, done, own, W, room => by
    obtain ⟨j, e, W1⟩ := own_more hm W (by simp at room; omega) h
    obtain ⟨own', e2, W2⟩ := lays_all hm rest (done ++ [h]) _ W1 (by simp at room ⊢; omega)
    refine ⟨own', ?_, by simpa using W2⟩
    rw [List.foldl_cons, stepF_some e]
    simpa using e2
structure Tbl (t : SetTable) (hs : List Int) : Prop where
  ris : Ris t.place.toList
  dm : t.dummies = #[]
  sz : t.place.size = hs.length
  two : ∃ k, t.mask + 1 = 2 ^ k
  bd : ∀ x ∈ t.place.toList, x ≤ t.mask
  reach : ∀ (i : Nat) (h : Int) (j : Nat), hs[i]? = some h → t.place.toList[i]? = some j → ∃ n, way t.mask h n = j ∧ ∀ q, q < n → way t.mask h q ∈ t.place.toList
theorem Tbl.first {t : SetTable} {hs : List Int} (T : Tbl t hs) (room : hs.length ≤ t.mask) (h : Int) : ∃ n, n < 10 * SetTable.turns t.mask ∧ way t.mask h n ∉ t.place.toList ∧ ∀ q, q < n → way t.mask h q ∈ t.place.toList := by
  obtain ⟨k, two⟩ := T.two
  obtain ⟨j, hj, out⟩ := st_missing t.place.toList (t.mask + 1) (by rw [Array.length_toList, T.sz]; omega)
  obtain ⟨n0, lt, e⟩ := ways_meet two h (Nat.le_of_lt_succ hj)
  obtain ⟨n, le, empty, least⟩ := st_least (p := fun q => way t.mask h q ∉ t.place.toList) n0 (by show way t.mask h n0 ∉ _; rw [e]; exact out)
  exact ⟨n, Nat.lt_of_le_of_lt le lt, empty, fun q hq => Classical.not_not.mp (least q hq)⟩
theorem Tbl.before {t : SetTable} {hs : List Int} (T : Tbl t hs) {h : Int} {n i j : Nat} (empty : way t.mask h n ∉ t.place.toList) (hi : hs[i]? = some h) (hj : t.place.toList[i]? = some j) : ∃ q, q < n ∧ way t.mask h q = j := by
  obtain ⟨q, e, full⟩ := T.reach i h j hi hj
  refine ⟨q, ?_, e⟩
  refine Classical.byContradiction fun no => ?_
  rcases Nat.eq_or_lt_of_le (Nat.le_of_not_lt no) with z | z
  · subst z
    rw [e] at empty
    exact empty (List.mem_of_getElem? hj)
  · exact empty (full n z)
theorem Tbl.put {t : SetTable} {hs : List Int} (T : Tbl t hs) {h : Int} {n : Nat} (empty : way t.mask h n ∉ t.place.toList) (full : ∀ q, q < n → way t.mask h q ∈ t.place.toList) :
    (t.put (way t.mask h n)).2 = SetTable.below t.place (way t.mask h n) ∧ SetTable.below t.place (way t.mask h n) ≤ hs.length ∧
    Tbl (t.put (way t.mask h n)).1 (hs.take (SetTable.below t.place (way t.mask h n)) ++ h :: hs.drop (SetTable.below t.place (way t.mask h n))) ∧
    (t.put (way t.mask h n)).1.mask = t.mask ∧ (t.put (way t.mask h n)).1.led = t.led ∧ (t.put (way t.mask h n)).1.plain = t.plain ∧ (t.put (way t.mask h n)).1.moves = t.moves ∧ (t.put (way t.mask h n)).1.finger = t.finger ∧
    (t.put (way t.mask h n)).1.fill = hs.length + 1 := by
  have inB : way t.mask h n ≤ t.mask := way_in
  generalize ej : way t.mask h n = j at empty inB ⊢
  have cut := (below_cut T.ris j).1
  have lp : SetTable.below t.place j ≤ t.place.toList.length := by rw [Array.length_toList]; exact cut
  have lh : SetTable.below t.place j ≤ hs.length := by rw [← T.sz]; exact cut
  have pl := put_place t j
  have sz1 : (t.put j).1.place.size = hs.length + 1 := by
    rw [← Array.length_toList, pl, len_ins _ lp, Array.length_toList, T.sz]
  have kept : ∀ {x : Nat}, x ∈ t.place.toList → x ∈ (t.put j).1.place.toList := fun {x} z => by rw [pl]; exact mem_ins.2 (.inr z)
  have other : t.place[SetTable.below t.place j]? ≠ some j := fun e => empty (List.mem_of_getElem? (by rw [Array.getElem?_toList]; exact e))
  refine ⟨rfl, lh, ⟨ris_insert T.ris other, put_dm T.dm j, by rw [len_ins _ lh]; exact sz1, T.two, fun x hx => ?_, fun i h' j' e1 e2 => ?_⟩, rfl, rfl, rfl, rfl, rfl, ?_⟩
  · rw [pl] at hx
    rcases mem_ins.1 hx with rfl | z
    · exact inB
    · exact T.bd x z
  · rw [tins_get hs lh] at e1
    rw [pl, tins_get _ lp] at e2
    have elder : ∀ i', hs[i']? = some h' → t.place.toList[i']? = some j' → ∃ q, way t.mask h' q = j' ∧ ∀ r, r < q → way t.mask h' r ∈ (t.put j).1.place.toList := fun i' z1 z2 => by
      obtain ⟨q, y1, y2⟩ := T.reach i' h' j' z1 z2
      exact ⟨q, y1, fun r hr => kept (y2 r hr)⟩
    by_cases c : i < SetTable.below t.place j
    · rw [if_pos c] at e1 e2
      exact elder i e1 e2
    · rw [if_neg c] at e1 e2
      by_cases d : i = SetTable.below t.place j
      · rw [if_pos d] at e1 e2
        cases e1
        cases e2
        exact ⟨n, ej, fun r hr => kept (full r hr)⟩
      · rw [if_neg d] at e1 e2
        exact elder (i - 1) e1 e2
  · show (t.put j).1.place.size + (t.put j).1.dummies.size = hs.length + 1
    rw [sz1, put_dm T.dm j]
    rfl
theorem relays (t : SetTable) {hs : Array Int} {wanted M : Nat} (hw : SetTable.sizeAbove wanted - 1 = M) (hm : M + 1 = 2 ^ k) (room : hs.size ≤ M) :
    ∃ t' order, t.relaid hs wanted = some (t', order) ∧ order.toList.Perm (List.range hs.size) ∧ Tbl t' (order.toList.map fun i => hs.getD i 0) ∧ t'.mask = M ∧ t'.led = t.led ∧ t'.plain = t.plain ∧ t'.dummies = #[] := by
  obtain ⟨own, e, W⟩ := lays_all hm hs.toList [] _ (Own.init M) (by simpa using room)
  rw [List.nil_append] at e W
  have lc : SetTable.layClean M hs = some own := by
    rw [layClean_eq]
    have : hs.toList.foldl (stepF M) (some (Array.replicate (M + 1) none, 0)) = some (own, hs.toList.length) := e
    rw [this]
    rfl
  have hr : t.relaid hs wanted = some (L2.tabOf t M own, ((liveOf M own).map (·.2)).toArray) := by
    rw [relaid_eq, hw, lc]
    rfl
  obtain ⟨r1, r2⟩ := ris_live (fun j => own.getD j none) (List.range (M + 1)) (by unfold Ris; exact List.pairwise_lt_range)
  have live : ∀ {y q}, (y, q) ∈ liveOf M own → y ≤ M ∧ oAt own y = some q := fun z => (mem_live W.sz).1 z
  have seen : ∀ q, q < hs.size → q ∈ (liveOf M own).map (·.2) := fun q hq => by
    obtain ⟨j, b1, b2⟩ := W.all q (by simpa using hq)
    exact List.mem_map.mpr ⟨(j, q), (mem_live W.sz).2 ⟨b1, b2⟩, rfl⟩
  have len : (liveOf M own).length = hs.size := by
    refine Nat.le_antisymm ?_ ?_
    · obtain ⟨ps, p1, p2⟩ := W.ps
      have nd : ((liveOf M own).map (·.1)).Nodup := List.Pairwise.imp (fun z => Nat.ne_of_lt z) r1
      have := nat_nodup_len _ ps nd fun x hx => by
        obtain ⟨⟨y, q⟩, hq, rfl⟩ := List.mem_map.mp hx
        obtain ⟨b1, b2⟩ := live hq
        exact p2 y b1 (by rw [b2]; simp)
      rw [List.length_map, p1, Array.length_toList] at this
      exact this
    · have := nat_nodup_len (List.range hs.size) ((liveOf M own).map (·.2)) List.nodup_range fun q hq => seen q (List.mem_range.mp hq)
      rwa [List.length_map, List.length_range] at this
  refine ⟨_, _, hr, perm_range hs.size _ (by show ((liveOf M own).map (·.2)).length = _; rw [List.length_map, len]) seen, ⟨r1, rfl, ?_, ⟨k, hm⟩, fun x hx => Nat.le_of_lt_succ (List.mem_range.mp (r2 x hx)), fun i h j e1 e2 => ?_⟩, rfl, rfl, rfl, rfl⟩
  · show ((liveOf M own).map (·.1)).toArray.size = (((liveOf M own).map (·.2)).map fun i => hs.getD i 0).length
    simp
  · have f1 : (((liveOf M own).map (·.2)).map fun i => hs.getD i 0)[i]? = some h := e1
    have f2 : ((liveOf M own).map (·.1))[i]? = some j := e2
    simp only [List.getElem?_map] at f1 f2
    cases at_i : (liveOf M own)[i]? with
    | none => rw [at_i] at f2; cases f2
    | some yq =>
      obtain ⟨y, q⟩ := yq
      rw [at_i] at f1 f2
      have ey : y = j := Option.some.inj f2
      subst ey
      have eh : hs.getD q 0 = h := Option.some.inj f1
      obtain ⟨b1, b2⟩ := live (List.mem_of_getElem? at_i)
      obtain ⟨h0, n, a1, a2, a3⟩ := W.at_ y q b1 b2
      have e0 : h0 = h := by
        rw [← eh, Array.getD_eq_getD_getElem?, ← Array.getElem?_toList, a1]
        rfl
      subst e0
      refine ⟨n, a2, fun r hr => ?_⟩
      show way M h0 r ∈ (liveOf M own).map (·.1)
      cases z : oAt own (way M h0 r) with
      | none => exact absurd z (a3 r hr)
      | some q2 => exact List.mem_map.mpr ⟨(way M h0 r, q2), (mem_live W.sz).2 ⟨way_in, z⟩, rfl⟩
end
open PySem in
theorem mask_odd2 {t : SetTable} {hs : List Int} (T : Tbl t hs) (pos : 0 < t.mask) : t.mask % 2 = 1 := by
  obtain ⟨k, e⟩ := T.two
  cases k with
  | zero => simp at e; omega
  | succ k => rw [Nat.pow_succ] at e; omega
def Msk (m : Nat) : Prop := m = 7 ∨ m = 31 ∨ m = 127 ∨ m = 511 ∨ m = 2047 ∨ m = 8191
open PySem in
theorem size_g5 : SetTable.sizeAbove (SetTable.grown 5) = 32 := by decide +kernel
open PySem in
theorem size_g19 : SetTable.sizeAbove (SetTable.grown 19) = 128 := by decide +kernel
open PySem in
theorem size_g77 : SetTable.sizeAbove (SetTable.grown 77) = 512 := by decide +kernel
open PySem in
theorem size_g307 : SetTable.sizeAbove (SetTable.grown 307) = 2048 := by decide +kernel
open PySem in
theorem size_g1229 : SetTable.sizeAbove (SetTable.grown 1229) = 8192 := by decide +kernel
abbrev setMost : Nat := 4900
end HTr
namespace HTr
open PySem PySem.Spec PyProof.Rows L2
section
variable {P : Program} {w : World} {A : Around} {E : Value → Shared → Prop} {s : Shared} {a : Addr} {es : Array (Int × Value)} {ep : Nat} {t : SetTable}
theorem way_text {o : Obj} (ho : s.heap.get? a = some o) (at0 : SetAt s.heap a es ep t) (fit : t.fits es.size = true) (txt : w.params.followText "set-order" = true) :
    SetIt P w s a es { s with heap := s.heap.push { cls := .type "set_iterator", data := .fields #[.int ((0 : Nat) : Int) 0, .int ((0 : Nat) : Int) 0, .ref a, .int (es.size : Int) 0, .int (ep : Int) 0] } } s.heap.objs.size :=
  SetIt.of (fun A' h' => walks_text (P := P) (ep := ep) h' (Nat.ne_of_lt (Heap.lt_size ho)) fit txt) (by rw [List.length_map, Array.length_toList]) (fun _ _ e => Heap.get?_push_of_some _ e) rfl rfl rfl (Nat.le_refl _)
    (fun b m => by
      have m' : b = s.heap.objs.size ∨ b = a := by simpa using m
      exact m'.elim (fun z => .inr (Nat.le_of_eq z.symm)) .inl) ((pick_perm (w.params.setOrder a ep) es).map _) (fun j v q => by rw [List.getElem?_map, Array.getElem?_toList]; exact q)
    ⟨⟨_, Heap.get?_push_size _ rfl, rfl, rfl⟩, at0.at fun _ e => Heap.get?_push_of_some _ e⟩
theorem way_led {o : Obj} (ho : s.heap.get? a = some o) (at0 : SetAt s.heap a es ep t) (fit : t.fits es.size = true) (ris : Ris t.place.toList) (txt : w.params.followText "set-order" = false) (plain : (!t.plain && decide (es.size > 1)) = false) (led : t.led = true) :
    SetIt P w s a es { s with heap := s.heap.push { cls := .type "set_iterator", data := .fields #[.int ((slotAt t 0 : Nat) : Int) 0, .int ((0 : Nat) : Int) 0, .ref a, .int (es.size : Int) 0, .int (ep : Int) 0] } } s.heap.objs.size :=
  SetIt.of (fun A' h' => walks_led (P := P) (ep := ep) h' (Nat.ne_of_lt (Heap.lt_size ho)) fit ris txt plain led) (by rw [List.length_map, Array.length_toList]) (fun _ _ e => Heap.get?_push_of_some _ e) rfl rfl rfl (Nat.le_refl _)
    (fun b m => by
      have m' : b = s.heap.objs.size ∨ b = a := by simpa using m
      exact m'.elim (fun z => .inr (Nat.le_of_eq z.symm)) .inl) (List.Perm.refl _) (fun j v q => by rw [List.getElem?_map, Array.getElem?_toList]; exact q)
    ⟨⟨_, Heap.get?_push_size _ rfl, rfl, rfl⟩, at0.at fun _ e => Heap.get?_push_of_some _ e⟩
abbrev drawnVals (es : Array (Int × Value)) (ys : List Nat) : List Value := ys.map fun q => ((es[q]?).map (·.2)).getD Value.none
abbrev drawnTup (ys : List Nat) : Obj := { cls := .type "tuple", data := .seq (ys.map fun (k : Nat) => rawInt (k : Int)).toArray }
theorem way_drawn {o : Obj} {ys : List Nat} {d : Drawn} (ho : s.heap.get? a = some o) (at0 : SetAt s.heap a es ep t) (fit : t.fits es.size = true) (pm : ys.Perm (List.range es.size)) (s1 : Shared) (e1 : s1 = { s with heap := s.heap.push (drawnTup ys), drawn := d }) :
    SetIt P w s a es { s1 with heap := s1.heap.push { cls := .type "set_iterator", data := .fields #[.ref s.heap.objs.size, .int ((0 : Nat) : Int) 0, .ref a, .int (es.size : Int) 0, .int (ep : Int) 0] } } s1.heap.objs.size := by
  have n1 : s1.heap.objs.size = s.heap.objs.size + 1 := by rw [e1]; exact size_push' _ _
  have kept : ∀ b u, s.heap.get? b = some u → s1.heap.get? b = some u := fun b u e => by rw [e1]; exact Heap.get?_push_of_some _ e
  have tup : s1.heap.get? s.heap.objs.size = some (drawnTup ys) := by rw [e1]; exact Heap.get?_push_size _ rfl
  have lt := Heap.lt_size ho
  refine SetIt.of (out := drawnVals es ys) (fun A' h' => walks_drawn (P := P) (w := w) (ep := ep) (t := t) (a := a) (I := s1.heap.objs.size) (p := s.heap.objs.size) (ys := ys) h' (by rw [n1]; exact Nat.ne_of_lt (Nat.lt_succ_of_lt lt)) (by rw [n1]; exact Nat.ne_of_lt (Nat.lt_succ_self _)) fit fun j hj => List.mem_range.mp (pm.mem_iff.mp hj)) (List.length_map _)
    (fun b u e => Heap.get?_push_of_some _ (kept b u e)) (by rw [e1]) (by rw [e1]) (by rw [e1]) (by rw [n1]; omega) (fun b m => ?_) (by rw [← range_map es]; exact pm.map _) (fun j v e => ?_)
    ⟨⟨_, Heap.get?_push_size _ rfl, rfl, rfl⟩, at0.at fun u e => Heap.get?_push_of_some _ (kept _ _ e), Heap.get?_push_of_some _ tup⟩
  · have m' : b = s1.heap.objs.size ∨ b = a ∨ b = s.heap.objs.size := by simpa using m
    rcases m' with z | z | z
    · exact .inr (by rw [z, n1]; exact Nat.le_succ _)
    · exact .inl z
    · exact .inr (Nat.le_of_eq z.symm)
  · rw [List.getElem?_map]
    cases hy : ys[j]? with
    | none => rw [hy] at e; cases e
    | some k =>
      rw [hy] at e
      have e' : (es[k]?).map (·.2) = some v := e
      simp [e']
theorem iter_big {Q : Value → Shared → Prop} (at0 : SetAt s.heap a es ep t) (fit : t.fits es.size = true) (small : es.size ≤ sizeLine) (ris : Ris t.place.toList) (known : w.params.followText "set-order" = true ∨ t.led = true)
    (q : ∀ s₂ I, SetIt P w s a es s₂ I → Q (.ref I) s₂) : wpAny (model P w) A (pyIter (.ref a)) Q E s := by
  by_cases big : es.size < scanBound
  · exact iter_set at0 fit big ris known q
  obtain ⟨o, ho, cls, dat⟩ := id at0
  refine wpAny_pyIter_slot ⟨o, ho, cls⟩ F.slot_set_iter (wpAny_call_entry F.slot_set_iter ⟨o, ho, cls⟩ entry_s_iter ?_ (F.args_set_iter_1 _))
  unfold Builtin.«frozenset.__iter__»
  refine wpAny_bind (m := Builtin.Frozenset.slot0 "__iter__" _) (wpAny_of_eq (a := a) (by rfl) (wpAny_bind (m := Builtin.Frozenset.sizeOf a) ?_))
  unfold Builtin.Frozenset.sizeOf
  refine wpAny_bind (wpAny_setEntries_of ho dat fit (wpAny_pure ?_))
  first | refine wpAny_bind (setDrawn_at at0 fit ?_) | refine wpAny_bind (wpAny_bind (setDrawn_at at0 fit ?_))
  by_cases txt : w.params.followText "set-order" = true
  · rw [txt]
    refine wp_if_neg (by simp) ?_
    first | refine wpAny_bind (wpAny_pure ?_) | refine wpAny_pure ?_
    exact wpAny_bind (wpAny_setEpoch_of ho dat fit (wpAny_bind (wpAny_newObj_type (wpAny_pure ⟨_, rfl, "set_iterator", _, ⟨_, Heap.get?_push_size _ rfl, rfl⟩, slot_si_next.lookup, q _ _ (way_text ho at0 fit txt)⟩))))
  · have txt' : w.params.followText "set-order" = false := by simpa using txt
    have led : t.led = true := known.resolve_left txt
    rw [txt']
    by_cases dr : (!t.plain && decide (es.size > 1)) = true
    · rw [dr]
      refine wp_if_pos rfl (wpAny_bind (drawOrder_at _ _ _ _ (Nat.le_of_eq List.length_range) fun ys d pm => ?_))
      have len : (ys.map fun (k : Nat) => rawInt (k : Int)).length ≤ sizeLine := by rw [List.length_map, pm.length_eq, List.length_range]; exact small
      first | refine wpAny_bind (wpAny_newTuple ?_ len) | refine wpAny_newTuple ?_ len
      exact wpAny_bind (wpAny_setEpoch_of (Heap.get?_push_of_some _ ho) dat fit (wpAny_bind (wpAny_newObj_type (wpAny_pure ⟨_, rfl, "set_iterator", _, ⟨_, Heap.get?_push_size _ rfl, rfl⟩, slot_si_next.lookup, q _ _ (way_drawn ho at0 fit pm _ rfl)⟩))))
    · have dr' : (!t.plain && decide (es.size > 1)) = false := by simpa using dr
      rw [dr']
      refine wp_if_neg (by simp) ?_
      first | refine wpAny_bind (wpAny_pure ?_) | refine wpAny_pure ?_
      exact wpAny_bind (wpAny_setEpoch_of ho dat fit (wpAny_bind (wpAny_newObj_type (wpAny_pure ⟨_, rfl, "set_iterator", _, ⟨_, Heap.get?_push_size _ rfl, rfl⟩, slot_si_next.lookup, q _ _ (way_led ho at0 fit ris txt' dr' led)⟩))))
theorem collect_big {Q : List Value → Shared → Prop} (hh : A.handled = none) (at0 : SetAt s.heap a es ep t) (fit : t.fits es.size = true) (small : es.size ≤ sizeLine) (ris : Ris t.place.toList)
    (known : w.params.followText "set-order" = true ∨ t.led = true)
    (q : ∀ s' out, (∀ b o, s.heap.get? b = some o → s'.heap.get? b = some o) → s.heap.objs.size ≤ s'.heap.objs.size → s'.gens = s.gens → s'.os = s.os → out.Perm (es.toList.map (·.2)) → Q out s') :
    wpAny (model P w) A (collect (.ref a)) Q E s := by
  by_cases big : es.size < scanBound
  · exact collect_set hh at0 fit big ris known q
  obtain ⟨o, ho, cls, dat⟩ := id at0
  have below : a < s.heap.objs.size := Heap.lt_size ho
  unfold collect
  refine wpAny_bind (wpAny_runValue (codeAny_builtin F.entry_proto_collect ?_))
  rw [Around.under_plainId F.plain_proto_collect _]
  show wpAny _ A.in1 (newList [] >>= fun l => again (.builtin "list.__iadd__" ⟨[l, .ref a], []⟩)) _ _ s
  refine wpAny_bind (wpAny_newObj_type (wpAny_pure ⟨plainId_quiet F.plain_list_iadd _, codeAny_builtin F.entry_list_iadd ?_⟩))
  rw [Around.under_plainId F.plain_list_iadd _]
  obtain ⟨d, ed⟩ : ∃ d, s.heap.objs.size = d := ⟨_, rfl⟩
  have da : d ≠ a := by rw [← ed]; exact Nat.ne_of_gt below
  have hd0 : (s.heap.push { cls := .type "list", data := .seq ([] : List Value).toArray }).get? d = some { cls := .type "list", data := .seq ([] : List Value).toArray } := by rw [← ed]; exact Heap.get?_push_size _ rfl
  have size0 : (s.heap.push { cls := .type "list", data := .seq ([] : List Value).toArray }).objs.size = d + 1 := by rw [← ed]; exact size_push' _ _
  rw [ed]
  show wpAny _ A.in1 (Builtin.List.listExtendWith (.ref d) (.ref a) (.ref d)) _ _ _
  unfold Builtin.List.listExtendWith
  refine wpAny_bind (wpAny_typeOf (T := "set") ⟨o, Heap.get?_push_of_some _ ho, cls⟩ ?_)
  have c1 : Builtin.List.listSameRef (.ref d) (.ref a) = false := by simp [Builtin.List.listSameRef, da]
  simp only [c1, show (Value.type "set" == Value.type "list") = false by decide, show (Value.type "set" == Value.type "tuple") = false by decide, Bool.or_false, Bool.false_eq_true, if_false]
  refine wpAny_bind (iter_big (s := { s with heap := s.heap.push { cls := .type "list", data := .seq ([] : List Value).toArray } }) (at0.at fun u e => Heap.get?_push_of_some _ e) fit small ris known fun s₂ I ⟨fp, Sn, out, Pv, k2, g2, o2, t2, hI, hfp, pm, hW, hPv, st⟩ => ?_)
  have off : d ∉ fp := fun m => (hfp _ m).elim da fun z => absurd (Nat.le_trans (Nat.le_of_eq size0.symm) z) (Nat.not_succ_le_self d)
  have ho2 := k2 a o (Heap.get?_push_of_some _ ho)
  have ty2 : s₂.TypeIs (.ref a) "set" := ⟨o, ho2, cls⟩
  refine wpAny_bind (wpAny_holding ?_)
  unfold Builtin.List.listLengthHint
  refine wpAny_bind (wpAny_specialOf ty2 F.slot_set_len.lookup ?_)
  (generalize hid : ("set.__len__" : String) = id0; (fail_if_success (clear hid id0)); wp_delta; rw [show splitId id0 = some ("set", "__len__") from by subst hid; decide +kernel]; subst hid)
  refine wpAny_bind (wpAny_isInstance (b := true) ty2 sub_set_self ?_)
  show wpAny _ A.in1 (typeOf (.ref a) >>= _) _ _ _
  refine wpAny_bind (wpAny_typeOf ty2 (wpAny_pure ?_))
  show wpAny _ A.in1 (rule "list.extend.makes-room" >>= fun _ => Builtin.List.listTouch (.ref d) >>= fun _ => again (.builtin "list.extend.loop" ⟨[.ref d, .ref I, .ref d], []⟩)) _ _ _
  have d2 := k2 _ _ hd0
  refine wpAny_bind (wpAny_rule (wpAny_bind ?_))
  show wpAny _ A.in1 (updateSeq d (·.push .none) >>= fun _ => updateSeq d (·.pop)) _ _ _
  have d3 := Heap.get?_update_self (Obj.mapSeq (·.push Value.none)) d2 rfl
  have d4 := Heap.get?_update_self (Obj.mapSeq (·.pop)) d3 rfl
  refine wpAny_bind (wpAny_updateSeq d2 rfl (wpAny_updateSeq d3 rfl ?_))
  have others : ∀ b u, b ≠ d → s₂.heap.get? b = some u → ((s₂.heap.update d (Obj.mapSeq (·.push Value.none))).update d (Obj.mapSeq (·.pop))).get? b = some u :=
    fun b u hb e => (Heap.get?_update_other _ _ (Ne.symm hb)).trans ((Heap.get?_update_other _ _ (Ne.symm hb)).trans e)
  have W := hW A.in1 hh
  refine wpAny_pure ⟨plainId_quiet F.plain_extend_loop _, codeAny_extend_loopS W.toS (by rw [pm.length_eq, List.length_map, Array.length_toList]; exact small) _ off _ out.length 0 _ _ _ rfl (Nat.zero_le _)
    (W.frame 0 _ _ st fun b hb u e => others b u (fun z => off (z ▸ hb)) e) d4 (ItemsOf.nil Pv) fun s' acc c' mem hd' all => ?_⟩
  show wpAny _ A (load d >>= _) _ _ s'
  refine wpAny_bind (wpAny_load hd' (wpAny_pure ?_))
  show Q acc.toList s'
  rw [items_out all hPv]
  have le' : s.heap.objs.size ≤ s'.heap.objs.size := by rw [ed]; exact Nat.le_of_lt (Heap.lt_size hd')
  refine q s' out (fun b u e => ?_) le' (mem.gens.trans g2) (mem.os.trans o2) pm
  have lt : b < d := by rw [← ed]; exact Heap.lt_size e
  refine mem.heap b u (fun z => ?_) (others b u (Nat.ne_of_lt lt) (k2 b u (Heap.get?_push_of_some _ e)))
  have bd : b = d ∨ b = I := by simpa using z
  rcases bd with z | z
  · exact absurd z (Nat.ne_of_lt lt)
  · have := Nat.le_trans (Nat.le_of_eq size0.symm) hI
    exact absurd lt (by rw [z]; exact Nat.not_lt_of_le (Nat.le_of_succ_le this))
end
end HTr
namespace HTr
open PySem PySem.Spec PyProof.Rows L2
abbrev tuh (P : Program) (w : World) (k : List Key) : Int := tupleKeyHash (mixKind P w) k
abbrev isTu (P : Program) (w : World) (h : Heap) (k : List Key) (a : Addr) : Prop := IsTupleKey (mixKind P w) h k a
section
variable {P : Program} {w : World} {A : Around} {E : Value → Shared → Prop} {s : Shared}
def flatVal : Value → Prop
  | .int _ _ => True
  | .str _ _ => True
  | _ => False
theorem mix_flat {k : List Key} {vs : List Value} (h : ItemsAre (mixKind P w) k vs) : ∀ v ∈ vs, flatVal v := by
  induction h with
  | nil => intro v hv; cases hv
  | @cons k0 u ks us h1 _ ih =>
    intro v hv
    cases hv with
    | head =>
      cases k0 with
      | inl i => obtain ⟨t, e⟩ := Value.isInt_shape (show Value.isInt i u = true from h1); rw [e]; trivial
      | inr x =>
        have h2 : Value.isStrOf x u = true := h1
        cases u <;> first | trivial | cases h2
    | tail _ hv => exact ih v hv
theorem flat_noClass (n : Nat) {v : Value} (f : flatVal v) : ofAClassStatement n v = pure false := by
  cases v <;> first | exact f.elim | (cases n <;> rfl)
theorem flat_hashes (n : Nat) {v : Value} (f : flatVal v) : ∃ b, hashByValue n v = pure b := by
  cases v <;> first | exact f.elim | (cases n <;> exact ⟨_, rfl⟩)
theorem tu_noClass {k : List Key} {b : Addr} {Q : Bool → Shared → Prop} (hk : isTu P w s.heap k b) (q : Q false s) : wpAny (model P w) A (ofAClassStatement 8 (.ref b)) Q E s := by
  have ty := hk.typeIs
  obtain ⟨o, its, n, ho, hc, hd, hi⟩ := hk
  unfold ofAClassStatement
  refine wpAny_bind (wpAny_typeOf ty ?_)
  dsimp only
  have e : (("tuple" : String) == "tuple") = true := by decide
  simp only [e, if_true, Bool.not_true, Bool.false_eq_true, if_false]
  try refine wpAny_bind (wpAny_pure ?_)
  try simp only [Bool.not_true, Bool.false_eq_true, if_false]
  show wpAny _ _ (seqItems? (.ref b) >>= _) _ _ s
  refine wpAny_bind (wpAny_seqItems ho hd ?_)
  dsimp only
  refine wpAny_bind ?_
  show wpAny _ _ (forIn its _ _) _ _ s
  rw [← Array.forIn_toList]
  have all := mix_flat hi
  refine wpAny_forIn_list _ (fun left r z => (r.1 = none ∧ z = s) ∧ ∀ v ∈ left, flatVal v) _ (fun v left r z hz => ?_) (fun r z hz => ?_) _ _ ⟨⟨rfl, rfl⟩, all⟩
  · obtain ⟨⟨h1, h2⟩, h3⟩ := hz
    subst h2
    rw [flat_noClass _ (h3 v (by simp))]
    refine wpAny_bind (wpAny_pure ?_)
    simp only [Bool.false_eq_true, if_false]
    exact wpAny_pure ⟨⟨rfl, rfl⟩, fun u hu => h3 u (by simp [hu])⟩
  · obtain ⟨r1, r2⟩ := r
    obtain ⟨⟨h1, h2⟩, _⟩ := hz
    dsimp only at h1
    subst h1 h2
    exact wpAny_pure q
theorem tu_hashes {k : List Key} {b : Addr} {Q : Bool → Shared → Prop} (hk : isTu P w s.heap k b) (q : ∀ c, Q c s) : wpAny (model P w) A (hashByValue 8 (.ref b)) Q E s := by
  have ty := hk.typeIs
  obtain ⟨o, its, n, ho, hc, hd, hi⟩ := hk
  unfold hashByValue
  refine wpAny_bind (wpAny_specialOf ty F.slot_tuple_hash.lookup ?_)
  show wpAny _ _ (seqItems? (.ref b) >>= _) _ _ s
  refine wpAny_bind (wpAny_seqItems ho hd ?_)
  refine wpAny_bind ?_
  show wpAny _ _ (forIn its _ _) _ _ s
  rw [← Array.forIn_toList]
  have all := mix_flat hi
  refine wpAny_forIn_list _ (fun left r z => z = s ∧ ∀ v ∈ left, flatVal v) _ (fun v left r z hz => ?_) (fun r z hz => ?_) _ _ ⟨rfl, all⟩
  · obtain ⟨h2, h3⟩ := hz
    subst h2
    obtain ⟨c, ec⟩ := flat_hashes 7 (h3 v (by simp))
    rw [ec]
    refine wpAny_bind (wpAny_pure ?_)
    cases c with
    | true =>
      simp only [Bool.not_true, Bool.false_eq_true, if_false]
      exact wpAny_pure ⟨rfl, fun u hu => h3 u (by simp [hu])⟩
    | false =>
      simp only [Bool.not_false, if_true]
      refine wpAny_pure ?_
      exact wpAny_pure (q false)
  · obtain ⟨r1, r2⟩ := r
    obtain ⟨h2, _⟩ := hz
    subst h2
    cases r1 with
    | none => exact wpAny_pure (q true)
    | some c => exact wpAny_pure (q c)
theorem tu_unseen {k : List Key} {b : Addr} {Q : Bool → Shared → Prop} (hk : isTu P w s.heap k b) {ys : List Value} (hy : ∀ y ∈ ys, ∃ c k', y = Value.ref c ∧ isTu P w s.heap k' c) (q : Q false s) :
    wpAny (model P w) A (searchCouldBeSeen (.ref b) ys) Q E s := by
  unfold searchCouldBeSeen
  refine wpAny_bind ?_
  refine wpAny_forIn_list _ (fun left r z => (r.1 = none ∧ z = s) ∧ ∀ y ∈ left, ∃ c k', y = Value.ref c ∧ isTu P w s.heap k' c) _ (fun v left r z hz => ?_) (fun r z hz => ?_) _ _ ⟨⟨rfl, rfl⟩, hy⟩
  · obtain ⟨⟨h1, h2⟩, h3⟩ := hz
    subst h2
    obtain ⟨c, k', e, hc⟩ := h3 v (by simp)
    subst e
    have go : wpAny (model P w) A (pure (ForInStep.yield ((none : Option Bool), PUnit.unit))) (fun st z' => match st with
      | .yield r' => (r'.1 = none ∧ z' = z) ∧ ∀ y ∈ left, ∃ c k', y = Value.ref c ∧ isTu P w z.heap k' c
      | .done r' => (r'.1 = none ∧ z' = z) ∧ False) E z := wpAny_pure ⟨⟨rfl, rfl⟩, fun u hu => h3 u (by simp [hu])⟩
    dsimp only
    refine wpAny_ite ?_
    split
    · exact wpAny_pure ⟨⟨rfl, rfl⟩, fun u hu => h3 u (by simp [hu])⟩
    · refine wpAny_bind (wpAny_eqIsQuiet_tuple hk ?_)
      simp only [Bool.not_true, Bool.false_eq_true, if_false]
      refine wpAny_bind (wpAny_eqIsQuiet_tuple hc ?_)
      simp only [Bool.not_true, Bool.false_eq_true, if_false]
      refine wpAny_bind (tu_noClass hk ?_)
      simp only [Bool.false_eq_true, if_false]
      refine wpAny_bind (tu_noClass hc ?_)
      simp only [Bool.false_eq_true, if_false]
      exact wpAny_pure ⟨⟨rfl, rfl⟩, fun u hu => h3 u (by simp [hu])⟩
  · obtain ⟨r1, r2⟩ := r
    obtain ⟨⟨h1, h2⟩, _⟩ := hz
    dsimp only at h1
    subst h1 h2
    exact wpAny_pure q
abbrev rowT (P : Program) (w : World) (L : List (Addr × List Key)) : List (Int × Value) := L.map fun q => (tuh P w q.2, Value.ref q.1)
abbrev hsT (P : Program) (w : World) (L : List (Addr × List Key)) : List Int := L.map fun q => tuh P w q.2
structure TuSet (P : Program) (w : World) (h : Heap) (a : Addr) (L : List (Addr × List Key)) (es : Array (Int × Value)) (ep : Nat) (t : SetTable) : Prop where
  obj : ∃ o, h.get? a = some o ∧ o.ExactSet ∧ o.data = .set es ep t
  rws : es.toList = rowT P w L
  tbl : Tbl t (hsT P w L)
  dif : (L.map (·.2)).Nodup
  tus : ∀ q ∈ L, isTu P w h q.2 q.1
  led : w.params.followText "set-order" = true ∨ t.led = true
  rom : L.length * 5 < t.mask * 3
  lit : L.length < setMost
  msk : Msk t.mask
variable {a : Addr} {L : List (Addr × List Key)} {es : Array (Int × Value)} {ep : Nat} {t : SetTable}
theorem rowT_len (h : es.toList = rowT P w L) : es.size = L.length := by
  rw [← Array.length_toList, h, List.length_map]
theorem rowT_get (h : es.toList = rowT P w L) {i : Nat} {q : Addr × List Key} (hq : L[i]? = some q) : es[i]? = some (tuh P w q.2, Value.ref q.1) := by
  rw [← Array.getElem?_toList, h, List.getElem?_map, hq]
  rfl
theorem place_len {hs : List Int} (T : Tbl t hs) : t.place.toList.length = hs.length := by rw [Array.length_toList, T.sz]
theorem fits_of (h : es.toList = rowT P w L) (T : Tbl t (hsT P w L)) (r : L.length ≤ t.mask) : t.fits es.size = true := by
  have h1 := T.sz
  rw [List.length_map] at h1
  unfold SetTable.fits SetTable.fill
  rw [T.dm, rowT_len h, Bool.and_eq_true]
  exact ⟨beq_iff_eq.mpr h1, decide_eq_true (by show t.place.size + 0 ≤ t.mask; omega)⟩
theorem no_dummy (m : Nat) : ∀ (n : Nat) (p : SetTable.Probe), p.dummy = none → (nth m p n).dummy = none
  | 0, _, h => h
  | n + 1, p, h => no_dummy m n (adv m p) (by unfold adv; split <;> exact h)
abbrev prb (t : SetTable) (h : Int) (n : Nat) : SetTable.Probe := nth t.mask (runAt t.mask (SetTable.bits h % (t.mask + 1)) (SetTable.bits h)) n
theorem prb_add (t : SetTable) (h : Int) (n k : Nat) : nth t.mask (prb t h n) k = prb t h (n + k) := (nth_add t.mask n _ k).symm
theorem tu_search (R : TuSet P w s.heap a L es ep t) {x : Addr} {k : List Key} (hx : isTu P w s.heap k x) (hu : A.units < cLine) {N : Nat} (hN : N < 10 * SetTable.turns t.mask)
    (free : way t.mask (tuh P w k) N ∉ t.place.toList) (taken : ∀ c, c < N → way t.mask (tuh P w k) c ∈ t.place.toList) {Q : SetFound → Shared → Prop}
    (yes : k ∈ L.map (·.2) → Q (.there none) s) (no : k ∉ L.map (·.2) → Q (.free (way t.mask (tuh P w k) N) false) s) (fuel : Nat) :
    ∀ (c : Nat) (st : Option SetTable.Probe), st.getD (t.probeStart (tuh P w k)) = prb t (tuh P w k) c → c ≤ N → N - c < fuel →
      (∀ (i : Nat) q, L[i]? = some q → q.2 = k → ∃ d, c ≤ d ∧ d < N ∧ t.place.toList[i]? = some (way t.mask (tuh P w k) d)) → wpAny (model P w) A (setSearchFrom a (.ref x) (tuh P w k) true fuel st) Q E s := by
  obtain ⟨o, ho, hex, hd⟩ := R.obj
  have fits : t.fits es.size = true := fits_of R.rws R.tbl (by have := R.rom; omega)
  have odd : ¬ t.gaveWay = true := by
    unfold SetTable.gaveWay
    rw [mask_odd2 R.tbl (by have := R.rom; omega)]
    decide
  generalize hh : tuh P w k = hk at *
  have hashOf : ∀ (i : Nat) q, L[i]? = some q → ((es[i]?.map (·.1)).getD 0) = tuh P w q.2 := fun i q hq => by rw [rowT_get R.rws hq]; rfl
  have wayJ : ∀ c d, (nth t.mask (prb t hk c) d).j = way t.mask hk (c + d) := fun c d => by rw [prb_add]
  induction fuel with
  | zero => intro c st _ _ hf _; exact absurd hf (Nat.not_lt_zero _)
  | succ fuel ih =>
    intro c st est hc hf met
    have end1 : c + (N - c) = N := by omega
    have spec := go_spec t R.tbl.ris R.tbl.dm (fun i => (es[i]?.map (·.1)).getD 0) hk (10 * SetTable.turns t.mask) (N - c) (prb t hk c) (no_dummy _ _ _ rfl) (by omega)
      (fun d hd' => by rw [wayJ]; exact taken _ (by omega)) (by rw [wayJ, end1]; exact free)
    rw [setSearchFrom_succ]
    refine wpAny_bind (wpAny_setState_of ho hd fits ?_)
    dsimp only
    refine wp_if_neg odd ?_
    try refine wpAny_bind (wpAny_pure ?_)
    rcases spec with ⟨d, i, hd1, hi, hash, before, probe⟩ | ⟨before, probe⟩
    ·
      rw [wayJ] at hi
      have li : i < L.length := by
        have z := (List.getElem?_eq_some_iff.mp hi).1
        rw [place_len R.tbl, List.length_map] at z
        exact z
      obtain ⟨q, hq⟩ : ∃ q, L[i]? = some q := ⟨L[i], List.getElem?_eq_getElem li⟩
      have hqL := List.mem_of_getElem? hq
      have probe' : t.probe (fun i => (es[i]?.map (·.1)).getD 0) hk (st.getD (t.probeStart hk)) = some (.candidate (way t.mask hk (c + d)) i (prb t hk (c + (d + 1)))) := by
        rw [est, ← wayJ, ← prb_add]
        exact probe
      rw [probe']
      dsimp only
      have tail : wpAny (model P w) A (searchRest a (.ref x) hk true fuel es t (way t.mask hk (c + d)) i (prb t hk (c + (d + 1)))) Q E s := by
        have live : t.slot (way t.mask hk (c + d)) = .live i := slot_live R.tbl.ris hi
        unfold searchRest
        rw [rowT_get R.rws hq]
        dsimp only
        refine wpAny_bind (wpAny_holding (wpAny_eqBool_tuple hu (R.tus q hqL) hx ?_))
        refine wpAny_bind (wpAny_setState_of ho hd fits ?_)
        dsimp only
        by_cases same : q.2 = k
        · refine wp_if_pos (by simp [same]) (wpAny_pure (yes ?_))
          exact List.mem_map.mpr ⟨q, hqL, same⟩
        · refine wp_if_neg (by simp [same]) ?_
          try refine wpAny_bind (wpAny_pure ?_)
          rw [sameMem]
          dsimp only
          simp only [if_true, live, rowT_get R.rws hq]
          refine wpAny_bind (wpAny_isSame_ref_self (wpAny_bind (wpAny_pure ?_)))
          simp only [if_true]
          refine wp_if_neg (by simp [same]) (ih (c + (d + 1)) _ rfl (by omega) (by omega) fun i0 q0 h0 k0 => ?_)
          obtain ⟨e, e1, e2, e3⟩ := met i0 q0 h0 k0
          refine ⟨e, ?_, e2, e3⟩
          rcases Nat.lt_trichotomy e (c + d) with z | z | z
          · exact (before (e - c) i0 (by omega) (by rw [wayJ, show c + (e - c) = e by omega]; exact e3) (by rw [← hh, ← k0]; exact hashOf i0 q0 h0)).elim
          · rw [z] at e3
            have two := slot_live R.tbl.ris e3
            rw [live] at two
            injection two with two
            rw [← two, hq] at h0
            cases h0
            exact (same k0).elim
          · omega
      by_cases led : t.led = true
      · refine wp_if_neg (by simp [led]) ?_
        try refine wpAny_bind (wpAny_pure ?_)
        exact tail
      · refine wp_if_pos (by simp [led]) (wpAny_bind (tu_unseen hx (fun y hy => ?_) ?_))
        · obtain ⟨r, hr, er⟩ := List.mem_map.mp hy
          have hr2 : r ∈ es.toList := by
            have : r ∈ es ∧ r.1 = hk := by simpa using hr
            simpa using this.1
          rw [R.rws] at hr2
          obtain ⟨q2, hq2, e2⟩ := List.mem_map.mp hr2
          exact ⟨q2.1, q2.2, by rw [← er, ← e2], R.tus q2 hq2⟩
        · refine wp_if_neg (by decide) ?_
          try refine wpAny_bind (wpAny_pure ?_)
          exact tail
    ·
      have probe' : t.probe (fun i => (es[i]?.map (·.1)).getD 0) hk (st.getD (t.probeStart hk)) = some (.empty (way t.mask hk N) none) := by
        have e2 : way t.mask hk N = (nth t.mask (prb t hk c) (N - c)).j := by rw [wayJ, end1]
        rw [est, e2]
        exact probe
      rw [probe']
      dsimp only
      refine wpAny_pure (no fun z => ?_)
      obtain ⟨q0, h0, k0⟩ := List.mem_map.mp z
      obtain ⟨i0, l0, g0⟩ := List.getElem_of_mem h0
      have h00 : L[i0]? = some q0 := by rw [List.getElem?_eq_getElem l0, g0]
      obtain ⟨e, e1, e2, e3⟩ := met i0 q0 h00 k0
      exact before (e - c) i0 (by omega) (by rw [wayJ, show c + (e - c) = e by omega]; exact e3) (by rw [← hh, ← k0]; exact hashOf i0 q0 h00)
end
end HTr
namespace HTr
open PySem PySem.Spec PyProof.Rows L2
section
variable {P : Program} {w : World} {A : Around} {E : Value → Shared → Prop} {s : Shared} {a : Addr} {L : List (Addr × List Key)} {es : Array (Int × Value)} {ep : Nat} {t : SetTable}
theorem tu_find (R : TuSet P w s.heap a L es ep t) {x : Addr} {k : List Key} (hx : isTu P w s.heap k x) (hu : A.units < cLine) {Q : SetFound → Shared → Prop} (yes : k ∈ L.map (·.2) → Q (.there none) s)
    (no : ∀ N, k ∉ L.map (·.2) → way t.mask (tuh P w k) N ∉ t.place.toList → (∀ c, c < N → way t.mask (tuh P w k) c ∈ t.place.toList) → Q (.free (way t.mask (tuh P w k) N) false) s) :
    wpAny (model P w) A (setSearch a (.ref x) (tuh P w k) true) Q E s := by
  have rm := R.rom
  obtain ⟨N, n1, n2, n3⟩ := R.tbl.first (by rw [List.length_map]; omega) (tuh P w k)
  have small : 10 * SetTable.turns t.mask < 100000 := by
    unfold SetTable.turns
    rcases R.msk with z | z | z | z | z | z <;> omega
  unfold setSearch
  refine tu_search R hx hu n1 n2 n3 yes (fun z => no N z n2 n3) 100000 0 none rfl (Nat.zero_le _) (by omega) fun i q hq hk => ?_
  have g1 : (hsT P w L)[i]? = some (tuh P w k) := by rw [List.getElem?_map, hq, ← hk]; rfl
  have li : i < t.place.toList.length := by
    rw [place_len R.tbl, List.length_map]
    exact (List.getElem?_eq_some_iff.mp hq).1
  obtain ⟨c, c1, c2⟩ := R.tbl.before n2 g1 (List.getElem?_eq_getElem li)
  exact ⟨c, Nat.zero_le _, c1, by rw [List.getElem?_eq_getElem li, c2]⟩
theorem tu_stays {h h' : Heap} {k : List Key} {b : Addr} {o : Obj} (hb : isTu P w h k b) (ho : h.get? a = some o) (hd : o.data = .set es ep t) (hs : Heap.SameBut a h h') : isTu P w h' k b := by
  obtain ⟨o', its, n, g1, g2, g3, g4⟩ := hb
  refine ⟨o', its, n, (hs.2 b fun e => ?_).trans g1, g2, g3, g4⟩
  subst e
  rw [ho] at g1
  cases g1
  rw [hd] at g3
  cases g3
theorem tu_kept {h h' : Heap} {k : List Key} {b : Addr} (hb : isTu P w h k b) (hk : ∀ c o, h.get? c = some o → h'.get? c = some o) : isTu P w h' k b := by
  obtain ⟨o', its, n, g1, g⟩ := hb
  exact ⟨o', its, n, hk _ _ g1, g⟩
theorem rows_order (h : es.toList = rowT P w L) (js : Array Nat) (pm : js.toList.Perm (List.range L.length)) :
    ∃ M, (js.filterMap (es[·]?)).toList = rowT P w M ∧ M.Perm L ∧ hsT P w M = js.toList.map fun i => (es.map (·.1)).getD i 0 := by
  have lt : ∀ j ∈ js.toList, j < L.length := fun j hj => List.mem_range.mp (pm.mem_iff.mp hj)
  refine ⟨js.toList.filterMap fun j => L[j]?, ?_, ?_, ?_⟩
  · have e1 : (js.filterMap (es[·]?)).toList = js.toList.filterMap fun j => es[j]? := by first | rw [Array.toList_filterMap] | simp
    rw [e1]
    revert lt
    generalize js.toList = l
    intro lt
    induction l with
    | nil => rfl
    | cons j l ih =>
      have hj := lt j (by simp)
      rw [List.filterMap_cons_some (rowT_get h (List.getElem?_eq_getElem hj)), List.filterMap_cons_some (List.getElem?_eq_getElem hj), ih fun i hi => lt i (by simp [hi])]
      rfl
  · have e1 : (List.range L.length).filterMap (fun j => L[j]?) = L := by
      have : ∀ n, n ≤ L.length → (List.range n).filterMap (fun j => L[j]?) = L.take n := by
        intro n
        induction n with
        | zero => intro _; rfl
        | succ n ih =>
          intro hn
          have ln : n < L.length := by omega
          rw [List.range_succ, List.filterMap_append, ih (by omega), List.take_succ, List.getElem?_eq_getElem ln]
          simp [List.getElem?_eq_getElem ln]
      rw [this L.length (Nat.le_refl _), List.take_length]
    have := pm.filterMap fun j => L[j]?
    rwa [e1] at this
  · revert lt
    generalize js.toList = l
    intro lt
    induction l with
    | nil => rfl
    | cons j l ih =>
      have hj := lt j (by simp)
      rw [List.filterMap_cons_some (List.getElem?_eq_getElem hj), List.map_cons]
      show tuh P w L[j].2 :: hsT P w _ = _
      rw [ih fun i hi => lt i (by simp [hi])]
      congr 1
      have e5 : (es.map (·.1))[j]? = some (tuh P w L[j].2) := by
        rw [Array.getElem?_map, rowT_get h (List.getElem?_eq_getElem hj)]
        rfl
      rw [Array.getD_eq_getD_getElem?, e5]
      rfl
theorem tu_relay {o : Obj} (ho : s.heap.get? a = some o) (hex : o.ExactSet) (hd : o.data = .set es ep t) (rws : es.toList = rowT P w L) (T : Tbl t (hsT P w L)) (le : L.length ≤ t.mask) (dif : (L.map (·.2)).Nodup) (tus : ∀ q ∈ L, isTu P w s.heap q.2 q.1)
    (led : w.params.followText "set-order" = true ∨ t.led = true) (lit : L.length < setMost) {want M k2 : Nat} (hw : SetTable.sizeAbove want - 1 = M) (hM : M + 1 = 2 ^ k2) (hw2 : SetTable.sizeAbove want ≤ 8192) (hmk : Msk M) (rm : L.length * 5 < M * 3) {Q : Unit → Shared → Prop}
    (q : ∀ h' L' es' ep' t', Heap.SameBut a s.heap h' → TuSet P w h' a L' es' ep' t' → L'.Perm L → Q () { s with heap := h' }) : wpAny (model P w) A (setRelay a want) Q E s := by
  have len := rowT_len rws
  have fits := fits_of rws T le
  obtain ⟨t', js, e, pm, T', em, el, _, _⟩ := relays t (hs := es.map (·.1)) (wanted := want) hw hM (by rw [Array.size_map, len]; omega)
  rw [Array.size_map, len] at pm
  obtain ⟨L2, r1, r2, r3⟩ := rows_order rws js pm
  rw [← r3] at T'
  have len2 : (js.filterMap (es[·]?)).size = es.size := by rw [rowT_len r1, r2.length_eq, len]
  rw [setRelay_eq]
  refine wpAny_bind (wpAny_setState_of ho hd fits ?_)
  dsimp only
  refine wp_if_neg (by rw [sizeLine_eq]; omega) ?_
  try refine wpAny_bind (wpAny_pure ?_)
  rw [e]
  dsimp only
  refine wpAny_bind ?_
  refine wp_if_neg (by rw [len2]; simp) ?_
  try refine wpAny_bind (wpAny_pure ?_)
  refine wpAny_pure ?_
  dsimp only
  refine wpAny_storeSet_of ho hd ?_ (by rw [len2, len, sizeLine_eq]; omega)
  have sb : Heap.SameBut a s.heap (s.heap.update a (Obj.putSet (js.filterMap (es[·]?)) t')) := Heap.SameBut.update ..
  exact q _ L2 (js.filterMap (es[·]?)) (ep + 1) t' sb ⟨⟨_, store_at ho hd, ⟨hex.1, hex.2.1, hex.2.2⟩, rfl⟩, r1, T', (r2.map (·.2)).nodup_iff.mpr dif, fun p hp => tu_stays (tus p (r2.mem_iff.mp hp)) ho hd sb,
    by rw [el]; exact led, by rw [r2.length_eq, em]; exact rm, by rw [r2.length_eq]; exact lit, by rw [em]; exact hmk⟩ r2
theorem tu_add (R : TuSet P w s.heap a L es ep t) {x : Addr} {k : List Key} (hx : isTu P w s.heap k x) (hu : A.units < cLine) (few : L.length + 1 < setMost) {Q : Bool → Shared → Prop}
    (q : ∀ b h' L' es' ep' t', Heap.SameBut a s.heap h' → TuSet P w h' a L' es' ep' t' → (k ∈ L.map (·.2) → L' = L) → (k ∉ L.map (·.2) → L'.Perm ((x, k) :: L)) → Q b { s with heap := h' }) :
    wpAny (model P w) A (setAddHashed a (.ref x) (tuh P w k)) Q E s := by
  obtain ⟨o, ho, hex, hd⟩ := R.obj
  have len := rowT_len R.rws
  have rm := R.rom
  have fits : t.fits es.size = true := fits_of R.rws R.tbl (by omega)
  unfold setAddHashed
  refine wpAny_holding ?_
  rw [show (100000 : Nat) = 99999 + 1 from rfl, setAddHashedIn_succ]
  refine wpAny_bind (wpAny_setState_of ho hd fits ?_)
  dsimp only
  refine wp_if_neg (by simp [byScan, Value.scannable]) ?_
  try refine wpAny_bind (wpAny_pure ?_)
  refine wpAny_bind (tu_find R hx hu (fun inn => ?_) fun N out n2 n3 => ?_)
  · dsimp only
    exact wpAny_pure (q false s.heap L es ep t (Heap.SameBut.refl a s.heap) R (fun _ => rfl) fun z => (z inn).elim)
  dsimp only
  refine wpAny_bind (wpAny_setState_of ho hd fits ?_)
  dsimp only
  obtain ⟨q1, q2, q3, q4, q5, q6, q7, q8, q9⟩ := R.tbl.put n2 n3
  generalize hpt : t.put (way t.mask (tuh P w k) N) = pt at q1 q3 q4 q5 q6 q7 q8 q9 ⊢
  obtain ⟨t1, p⟩ := pt
  dsimp only at q1 q3 q4 q5 q6 q7 q8 q9 ⊢
  subst q1
  let b := SetTable.below t.place (way t.mask (tuh P w k) N)
  have pm : (L.take b ++ (x, k) :: L.drop b).Perm ((x, k) :: L) := put_perm L b (x, k)
  have rows1 : (SetTable.insertAt es b (tuh P w k, Value.ref x)).toList = rowT P w (L.take b ++ (x, k) :: L.drop b) := by
    rw [SetTable.toList_insertAt, R.rws]
    show _ = List.map _ _
    rw [List.map_append, List.map_cons, List.map_take, List.map_drop]
  have hash1 : (hsT P w L).take b ++ tuh P w k :: (hsT P w L).drop b = hsT P w (L.take b ++ (x, k) :: L.drop b) := by
    show _ = List.map _ _
    rw [List.map_append, List.map_cons, List.map_take, List.map_drop]
  have T1 : Tbl t1 (hsT P w (L.take b ++ (x, k) :: L.drop b)) := by rw [← hash1]; exact q3
  have len1 : (L.take b ++ (x, k) :: L.drop b).length = L.length + 1 := pm.length_eq
  have dif1 : ((L.take b ++ (x, k) :: L.drop b).map (·.2)).Nodup := (pm.map (·.2)).nodup_iff.mpr (List.nodup_cons.mpr ⟨out, R.dif⟩)
  show wpAny (model P w) A _ Q E s
  change wpAny (model P w) A (if t1.plain = true then do
      let byValue ← hashByValue 8 (Value.ref x)
      storeSet a (SetTable.insertAt es b (tuh P w k, Value.ref x)) (if byValue = true then t1 else { t1 with plain := false })
      if (!false && (if byValue = true then t1 else { t1 with plain := false }).tooFull) = true then do
          setRelay a (SetTable.grown (es.size + 1))
          pure true
        else pure true
    else do
      let byValue ← pure true
      storeSet a (SetTable.insertAt es b (tuh P w k, Value.ref x)) (if byValue = true then t1 else { t1 with plain := false })
      if (!false && (if byValue = true then t1 else { t1 with plain := false }).tooFull) = true then do
          setRelay a (SetTable.grown (es.size + 1))
          pure true
        else pure true) Q E s
  revert pm rows1 T1 len1 dif1
  generalize SetTable.insertAt es b (tuh P w k, Value.ref x) = es1
  generalize L.take b ++ (x, k) :: L.drop b = L1
  intro pm rows1 T1 len1 dif1
  have sz1 : es1.size = L.length + 1 := by rw [rowT_len rows1, len1]
  have fin : ∀ t2 : SetTable, Tbl t2 (hsT P w L1) → t2.mask = t.mask → t2.led = t.led → wpAny (model P w) A (do
      storeSet a es1 t2
      if (!false && t2.tooFull) = true then do
          setRelay a (SetTable.grown (es.size + 1))
          pure true
        else pure true) Q E s := fun t2 T2 em el => by
    refine wpAny_bind (wpAny_storeSet_of ho hd ?_ (by rw [sz1, sizeLine_eq]; have := R.lit; have sm : setMost = 4900 := rfl; omega))
    have sb : Heap.SameBut a s.heap (s.heap.update a (Obj.putSet es1 t2)) := Heap.SameBut.update ..
    have ho1 := store_at (es' := es1) (t' := t2) ho hd
    revert sb ho1
    generalize s.heap.update a (Obj.putSet es1 t2) = h1
    intro sb ho1
    have tus1 : ∀ r ∈ L1, isTu P w h1 r.2 r.1 := fun r hr => by
      rcases List.mem_cons.mp (pm.mem_iff.mp hr) with e | hr
      · rw [e]; exact tu_stays hx ho hd sb
      · exact tu_stays (R.tus r hr) ho hd sb
    have led1 : w.params.followText "set-order" = true ∨ t2.led = true := by rw [el]; exact R.led
    have fill2 : t2.fill = L.length + 1 := by
      unfold SetTable.fill
      have := T2.sz
      rw [List.length_map, len1] at this
      rw [T2.dm, this]
      rfl
    by_cases full : t2.tooFull = true
    · refine wp_if_pos (by simp [full]) ?_
      have much : (L.length + 1) * 5 ≥ t2.mask * 3 := by
        unfold SetTable.tooFull at full
        rw [decide_eq_true_eq, fill2] at full
        exact full
      refine wpAny_bind ?_
      rw [len]
      have sm : setMost = 4900 := rfl
      have cases5 : (t.mask = 7 ∧ L.length = 4) ∨ (t.mask = 31 ∧ L.length = 18) ∨ (t.mask = 127 ∧ L.length = 76) ∨ (t.mask = 511 ∧ L.length = 306) ∨ (t.mask = 2047 ∧ L.length = 1228) := by
        rw [em] at much
        rcases R.msk with z | z | z | z | z | z <;> rw [z] at much rm ⊢ <;> omega
      have next : ∀ M k2, SetTable.sizeAbove (SetTable.grown (L.length + 1)) - 1 = M → M + 1 = 2 ^ k2 → SetTable.sizeAbove (SetTable.grown (L.length + 1)) ≤ 8192 → Msk M → L1.length * 5 < M * 3 →
          wpAny (model P w) A (setRelay a (SetTable.grown (L.length + 1))) (fun _ s' => wpAny (model P w) A (pure true) Q E s') E { s with heap := h1 } := fun M k2 m1 m2 m3 mk m4 =>
        tu_relay (s := { s with heap := h1 }) ho1 ⟨hex.1, hex.2.1, hex.2.2⟩ rfl rows1 T2 (by rw [len1, em]; rcases cases5 with ⟨z, y⟩ | ⟨z, y⟩ | ⟨z, y⟩ | ⟨z, y⟩ | ⟨z, y⟩ <;> omega) dif1 tus1 led1 (by rw [len1]; exact few) m1 m2 m3 mk m4 fun h2 L2 es2 ep2 t3 sb2 R2 pm2 =>
          wpAny_pure (q true h2 L2 es2 ep2 t3 (sb.trans sb2) R2 (fun z => (out z).elim) fun _ => pm2.trans pm)
      rcases cases5 with ⟨_, y⟩ | ⟨_, y⟩ | ⟨_, y⟩ | ⟨_, y⟩ | ⟨_, y⟩
      · exact next 31 5 (by rw [y, size_g5]) rfl (by rw [y, size_g5]; decide) (.inr (.inl rfl)) (by omega)
      · exact next 127 7 (by rw [y, size_g19]) rfl (by rw [y, size_g19]; decide) (.inr (.inr (.inl rfl))) (by omega)
      · exact next 511 9 (by rw [y, size_g77]) rfl (by rw [y, size_g77]; decide) (.inr (.inr (.inr (.inl rfl)))) (by omega)
      · exact next 2047 11 (by rw [y, size_g307]) rfl (by rw [y, size_g307]; decide) (.inr (.inr (.inr (.inr (.inl rfl))))) (by omega)
      · exact next 8191 13 (by rw [y, size_g1229]) rfl (by rw [y, size_g1229]; decide) (.inr (.inr (.inr (.inr (.inr rfl))))) (by omega)
    · refine wp_if_neg (by simp [full]) (wpAny_pure (q true h1 L1 es1 (ep + 1) t2 sb ⟨⟨_, ho1, ⟨hex.1, hex.2.1, hex.2.2⟩, rfl⟩, rows1, T2, dif1, tus1, led1, ?_, by rw [len1]; exact few, by rw [em]; exact R.msk⟩ (fun z => (out z).elim) fun _ => pm))
      unfold SetTable.tooFull at full
      rw [decide_eq_true_eq, fill2] at full
      rw [len1]
      omega
  have T1' : Tbl { t1 with plain := false } (hsT P w L1) := ⟨T1.ris, T1.dm, T1.sz, T1.two, T1.bd, T1.reach⟩
  by_cases pl : t1.plain = true
  · refine wp_if_pos pl (wpAny_bind (tu_hashes hx fun c => ?_))
    cases c with
    | true => exact fin t1 T1 q4 q5
    | false => exact fin { t1 with plain := false } T1' q4 q5
  · refine wp_if_neg pl (wpAny_bind (wpAny_pure ?_))
    exact fin t1 T1 q4 q5
end
end HTr
namespace HTr
open PySem PySem.Spec PyProof.Rows L2
structure TuSet0 (P : Program) (w : World) (h : Heap) (a : Addr) (L : List (Addr × List Key)) (es : Array (Int × Value)) (ep : Nat) (t : SetTable) : Prop where
  obj : ∃ o, h.get? a = some o ∧ o.ExactSet ∧ o.data = .set es ep t
  rws : es.toList = rowT P w L
  tbl : Tbl t (hsT P w L)
  dif : (L.map (·.2)).Nodup
  led : w.params.followText "set-order" = true ∨ t.led = true
  rom : L.length * 5 < t.mask * 3
  lit : L.length < setMost
  msk : Msk t.mask
def TuO (P : Program) (w : World) (a : Addr) (L : List (Addr × List Key)) : HO := .ext fun h => ∃ es ep t, TuSet0 P w h a L es ep t
section
variable {P : Program} {w : World} {A : Around} {E : Value → Shared → Prop} {s : Shared} {a : Addr} {L : List (Addr × List Key)} {es : Array (Int × Value)} {ep : Nat} {t : SetTable}
theorem TuSet.part {h : Heap} (R : TuSet P w h a L es ep t) : TuSet0 P w h a L es ep t := ⟨R.obj, R.rws, R.tbl, R.dif, R.led, R.rom, R.lit, R.msk⟩
theorem TuSet0.whole {h : Heap} (R : TuSet0 P w h a L es ep t) (tus : ∀ q ∈ L, isTu P w h q.2 q.1) : TuSet P w h a L es ep t := ⟨R.obj, R.rws, R.tbl, R.dif, tus, R.led, R.rom, R.lit, R.msk⟩
theorem tuO_ok {H : Hp} {h : Heap} (R : TuSet0 P w h a L es ep t) : ObjOk P w H h a (TuO P w a L) := by
  obtain ⟨o, ho, r1, r2⟩ := R.obj
  refine ⟨⟨es, ep, t, R⟩, ⟨o, ho⟩, fun h1 h2 ⟨es', ep', t', R'⟩ same => ?_⟩
  obtain ⟨o', ho', r1', r2'⟩ := R'.obj
  exact ⟨es', ep', t', ⟨o', same _ ho', r1', r2'⟩, R'.rws, R'.tbl, R'.dif, R'.led, R'.rom, R'.lit, R'.msk⟩
theorem tuSet_new {h : Heap} (ho : h.get? a = some { cls := .type "set", dict := none, data := .set #[] 0 (.fresh 0 0 (!w.params.followText "set-order")) }) : TuSet0 P w h a [] #[] 0 (.fresh 0 0 (!w.params.followText "set-order")) := by
  refine ⟨⟨_, ho, ⟨rfl, rfl, rfl⟩, rfl⟩, rfl, ⟨.nil, rfl, rfl, ⟨3, rfl⟩, fun x hx => (by cases hx), fun i h j hi => (by simp at hi)⟩, .nil, ?_, by show 0 * 5 < 7 * 3; decide, by show 0 < setMost; decide, .inl rfl⟩
  show _ ∨ (!w.params.followText "set-order") = true
  cases w.params.followText "set-order" <;> simp
theorem items_key : ∀ {kk : List Key} {us : List Value}, Vals (kk.map kV) us → ItemsAre (mixKind P w) kk us
  | [], _, .nil => .nil
  | k :: kk, _, .cons r t => .cons (kV_is r) (items_key t)
end
section
variable {X : Cx} {pins : List (Addr × Obj)} {σ : L2.St} {H : Hp} {s : Shared}
theorem inv_tu (I : Inv X pins σ H s) {b : Addr} {k : List Key} (h : SqT X.K H b (k.map kV)) : isTu X.prog X.w s.heap k b := by
  obtain ⟨its, rv, ⟨o, h1, h2, n, h3⟩, _⟩ := I.tuple h
  exact ⟨o, its.toArray, n, h1, h2, h3, by simpa using items_key rv⟩
theorem tu_put {A : Around} {E : Value → Shared → Prop} (I : Inv X pins σ H s) {D b : Addr} {L : List (Addr × List Key)} {k : List Key} (hu : A.units + 8 < cLine) (hD : H D = some (TuO X.prog X.w D L)) (hb : SqT X.K H b (k.map kV)) (hL : ∀ q ∈ L, SqT X.K H q.1 (q.2.map kV)) (few : L.length + 1 < setMost) {Q : Value → Shared → Prop}
    (h : ∀ s' L', (k ∈ L.map (·.2) → L' = L) → (k ∉ L.map (·.2) → L'.Perm ((b, k) :: L)) → Inv X pins σ (upd H D (TuO X.prog X.w D L')) s' → Q .none s') : wpAny (model X.prog X.w) A (call (.builtin "set.add") [.ref D, .ref b]) Q E s := by
  obtain ⟨⟨es, ep, t, R0⟩, _⟩ := I.hok D _ hD
  have R := R0.whole fun q hq => inv_tu I (hL q hq)
  obtain ⟨o, ho, hex, hd⟩ := R.obj
  have hx := inv_tu I hb
  have ty : s.TypeIs (.ref D) "set" := ⟨o, ho, hex.1⟩
  refine wpAny_call_entry F.slot_set_add ty F.entry_set_add ?_ (F.args_set_add_2 _ _)
  unfold Builtin.«set.add» Builtin.Frozenset.oneOther
  simp only [List.isEmpty_nil, bind_assoc]
  unfold Builtin.Frozenset.addrOf setAdd
  refine wpAny_bind (wpAny_pure ?_)
  try dsimp only
  refine wpAny_bind (wpAny_pure ?_)
  try dsimp only
  refine wpAny_bind ?_
  refine wpAny_holding ?_
  refine wpAny_bind (wpAny_pyHash_tuple (by first | exact (show A.units < cLine by omega) | exact (show A.units + 1 < cLine by omega)) hx ?_)
  refine tu_add (s := { s with toks := s.toks + (k.length + 1) }) R hx (by first | exact (show A.units < cLine by omega) | exact (show A.units + 1 < cLine by omega)) few fun c h' L' es' ep' t' sb R' c1 c2 => ?_
  refine wpAny_pure ⟨_, rfl, h _ L' c1 c2 ?_⟩
  obtain ⟨o', ho', _⟩ := R'.obj
  exact I.write (e := D) (t' := s.toks + (k.length + 1)) (by rw [hD]; trivial) (.inl rfl) (fun c u hc hu => (sb.2 c hc).trans hu) ⟨o', ho'⟩ (tuO_ok R'.part)
end
end HTr
namespace HTr
open PySem PySem.Spec PyProof.Rows L2
def addsT (K : PySem.W.Frag) (P : Program) (w : World) (D : Addr) (nx : Hp → Prop) : VK := fun y H => ∃ (L : List (Addr × List Key)) (b : Addr) (k : List Key), y = .ref b ∧ SqT K H b (k.map kV) ∧ H D = some (TuO P w D L) ∧ (∀ q ∈ L, SqT K H q.1 (q.2.map kV)) ∧ L.length + 1 < setMost ∧
  ∀ L', (k ∈ L.map (·.2) → L' = L) → (k ∉ L.map (·.2) → L'.Perm ((b, k) :: L)) → nx (upd H D (TuO P w D L'))
def tScT (K : PySem.W.Frag) (P : Program) (w : World) (wi : TI) (g : TG) (tt : TT) (te : TE) (vs : List Nat) : TE := fun σ H Q => wi σ H fun J H1 => ∀ D, H1 D = none → ∃ W : Nat → Nat → Hp → Prop, (∃ m, W 0 m (upd H1 D (TuO P w D []))) ∧ ∀ i m H, W i m H →
  (J.stop i H ∧ Q (.ref D) H) ∨ (J.go i H ∧ ∃ Nx : Hp → Prop, (∀ H', Nx H' → ∃ m', m' < m ∧ W (i + 1) m' H') ∧ ∀ x H', J.yld i H x H' → g x (wipe σ vs) H' fun σ2 H2 => wipe σ2 vs = wipe σ vs ∧ tt σ2 H2 fun b H3 =>
    if b = true then te σ2 H3 (addsT K P w D Nx) else Nx H3)
section
variable {X : Cx}
theorem pe_scT {elt tg iter : Expr} {ifs : List Expr} {scope : Scope} {own : List (Str × Nat)} {pos : Pos} {wi : TI} {g : TG} {tt : TT} {te : TE} (hc : X.calm = true) (hu : X.A.units + 64 < cLine) (hN : X.N.Nodup) (hi : PI X tg iter wi) (ok : BlkOk X.N X.env.scope scope own)
    (hg : ∀ (s : Shared) (H : Hp) (C : Addr) (cl : List (Str × Addr)) (fp : List Addr), PG (X.blk s H scope (compEnvC scope cl C X.env) fp) tg g) (ht : ∀ (s : Shared) (H : Hp) (C : Addr) (cl : List (Str × Addr)) (fp : List Addr), PTs (X.blk s H scope (compEnvC scope cl C X.env) fp) ifs tt)
    (he : ∀ (s : Shared) (H : Hp) (C : Addr) (cl : List (Str × Addr)) (fp : List Addr), PE (X.blk s H scope (compEnvC scope cl C X.env) fp) elt te) (hs : ∀ x, foldedSetIterable iter X.env x = pure x := by intro _; rfl) :
    PE X (.SetComp elt [⟨tg, iter, ifs, 0⟩] scope pos) (tScT X.K X.prog X.w wi g tt te (own.map (·.2))) := by
  refine ⟨fun pins s σ H Q I h => ?_⟩
  rw [PpSet.eval_SetComp]
  have fr : ∀ y ∈ scope.names, y.2 = .free → ∃ c, X.env.cells.lookup y.1 = some c := fun y hy e => (ok.free y hy e).elim (fun z => I.ok.has _ (.inl z)) fun z => I.ok.has _ (.inr z)
  refine wpAny_comprehension_free (use := none) rfl hs (closure_ok fr) ok.kind (fun y hy e => by rw [ok.uniq y hy, e]) ?_
  refine thn (hi.run pins s σ H _ I h) fun xv s1 hx => thn hx fun itv s2 q2 => ?_
  obtain ⟨it, fp, tn, J, H2, e, I2, T, st2, f2, q⟩ := q2
  subst e
  refine PpSet.newSet_ok (newEnv_comp ?_)
  generalize hD : s2.heap.objs.size = D
  have D2 : H2 D = none := I2.hok.fresh (Nat.le_of_eq hD)
  obtain ⟨W, ⟨m0, w0⟩, turn⟩ := q D D2
  generalize hs3 : ({ s2 with heap := s2.heap.push { cls := .type "set", dict := none, data := .set #[] 0 (.fresh 0 0 (!X.w.params.followText "set-order")) } } : Shared) = s3
  have e3 : s3.heap = s2.heap.push { cls := .type "set", dict := none, data := .set #[] 0 (.fresh 0 0 (!X.w.params.followText "set-order")) } := by rw [← hs3]
  have I3 : Inv X pins σ (upd H2 D (TuO X.prog X.w D [])) s3 := by
    rw [← hs3]
    refine I2.laid (t' := s2.toks) (fun b o e => Heap.get?_push_of_some _ e) (Nat.le_of_eq hD) (tuO_ok (tuSet_new ?_))
    rw [← hD]
    exact Heap.get?_push_size _ rfl
  have old : ∀ b ∈ fp, b < s2.heap.objs.size := fun b hb => let ⟨o, z, _⟩ := T.obj _ _ st2 b hb; Heap.lt_size z
  have f3 : ∀ b ∈ fp, FpOk X pins (upd H2 D (TuO X.prog X.w D [])) b ∧ b < s3.heap.objs.size := fun b hb => by
    have l := old b hb
    refine ⟨⟨?_, (f2 b hb).2⟩, by rw [e3, Heap.size_push]; exact Nat.lt_succ_of_lt l⟩
    rw [upd_ne (fun z => by rw [z, ← hD] at l; exact absurd l (Nat.lt_irrefl _))]
    exact (f2 b hb).1
  have st3 : tn 0 s3.heap := T.keep _ _ _ st2 fun b _ o z => by rw [e3]; exact Heap.get?_push_of_some _ z
  have I4 := block_start I3 ok hN f3
  have n3 : ∀ b ∈ fp, (upd H2 D (TuO X.prog X.w D [])) b = none := fun b hb => (f3 b hb).1.1
  generalize hH3 : upd H2 D (TuO X.prog X.w D []) = H3 at I3 I4 w0 n3 f3
  have pg := hg s3 H3 s3.heap.objs.size (cellsFrom (s3.heap.objs.size + 1) scope.names (cloFrom X.env.cells scope.names [])) fp
  have pt := ht s3 H3 s3.heap.objs.size (cellsFrom (s3.heap.objs.size + 1) scope.names (cloFrom X.env.cells scope.names [])) fp
  have pe := he s3 H3 s3.heap.objs.size (cellsFrom (s3.heap.objs.size + 1) scope.names (cloFrom X.env.cells scope.names [])) fp
  show codeAny _ _ (.compStart (.SetComp elt [⟨tg, iter, ifs, 0⟩] scope pos) 0 (.ref it) (.ref D)
    (compEnvC scope (cellsFrom (s3.heap.objs.size + 1) scope.names (cloFrom X.env.cells scope.names [])) s3.heap.objs.size X.env)) _ { s3 with heap := pushCells (s3.heap.push { cls := .type "dict", data := .dict #[] }) scope.names }
  generalize hce : compEnvC scope (cellsFrom (s3.heap.objs.size + 1) scope.names (cloFrom X.env.cells scope.names [])) s3.heap.objs.size X.env = ce at I4 pg pt pe ⊢
  have eL : ce.locals = s3.heap.objs.size := by rw [← hce]; rfl
  generalize hs4 : ({ s3 with heap := pushCells (s3.heap.push { cls := .type "dict", data := .dict #[] }) scope.names } : Shared) = s4 at I4 ⊢
  have st4 : tn 0 s4.heap := T.keep _ _ _ st3 fun b _ o z => by rw [← hs4]; exact pushCells_keeps _ _ _ _ (Heap.get?_push_of_some _ z)
  have stand : ∀ {σ' : L2.St} {H' : Hp} {s' : Shared}, Inv (X.blk s3 H3 scope ce fp) [] σ' H' s' → (∀ b ∈ fp, H' b = none) → ∀ b ∈ fp, FpOk (X.blk s3 H3 scope ce fp) [] H' b := fun {σ' H' s'} J1 no b hb => by
    refine ⟨no b hb, (J1.ok.exf b hb).1, J1.ok.exfs b hb, .inl hb, fun x c e => (J1.ok.exf b hb).2 x c e, fun p hp => ?_⟩
    exact absurd (show p ∈ ([] : List (Addr × Obj)) ++ [] from hp) (by simp)
  have loop : codeAny (model X.prog X.w) X.A (.compLoop (.SetComp elt [⟨tg, iter, ifs, 0⟩] scope pos) 0 (.ref it) (.ref D) ce) (compPost (model X.prog X.w) X.A X.xe none (EP X pins σ Q) (.ref D) s3.heap.objs.size) s4 := by
    refine PpSet.compLoopS_any (fun m z => ∃ i Hz, W i m Hz ∧ Inv (X.blk s3 H3 scope ce fp) [] (wipe σ (own.map (·.2))) Hz z ∧ tn i z.heap ∧ ∀ b ∈ fp, Hz b = none) ?_ m0 ⟨0, H3, w0, I4, st4, n3⟩
    rintro m z ⟨i, Hz, wz, Iz, stz, nz⟩
    have back : ∀ {u : Shared} {σ' : L2.St} {Hu : Hp} {u0 : Shared} {nx : Hp → Prop}, (∀ H', nx H' → ∃ m', m' < m ∧ W (i + 1) m' H') → tn (i + 1) u0.heap → wipe σ' (own.map (·.2)) = wipe σ (own.map (·.2)) →
        Inv (X.blk s3 H3 scope ce fp) ([] ++ pinsAt fp u0.heap) σ' Hu u → nx Hu →
        ∃ m', m' < m ∧ ∃ j Hj, W j m' Hj ∧ Inv (X.blk s3 H3 scope ce fp) [] (wipe σ (own.map (·.2))) Hj u ∧ tn j u.heap ∧ ∀ b ∈ fp, Hj b = none := fun {u σ' Hu u0 nx} dn su ew Iu go => by
      obtain ⟨m', lm, wm⟩ := dn Hu go
      have pin : ∀ b ∈ fp, ∀ o, u0.heap.get? b = some o → u.heap.get? b = some o ∧ Hu b = none := fun b hb o e => by
        have y := Iu.pin (b, o) (List.mem_append_right _ (List.mem_append_right _ (mem_pinsAt hb e)))
        exact ⟨y.1, y.2.1⟩
      refine ⟨m', lm, i + 1, Hu, wm, (Iu.unpinned (pins := [])).weak ?_ (fun j v e => ?_), T.keep _ _ _ su fun b hb o e => (pin b hb o e).1, fun b hb => ?_⟩
      · rw [← ew, wipe_length]
      · rw [← ew] at e
        exact (wipe_some e).1
      · obtain ⟨o, e, _⟩ := T.obj _ _ su b hb
        exact (pin b hb o e).2
    rcases turn i m Hz wz with ⟨stop, fin⟩ | ⟨go, Nx, dn, step⟩
    · refine thnF (T.done (X.blk s3 H3 scope ce fp) rfl rfl rfl hc i [] z _ Hz (fun _ _ => False) Iz (stand Iz nz) stz stop) fun r u ⟨er, Iu⟩ => ?_
      subst er
      have I7 : Inv X pins σ Hz u := I3.call' (ch := fp) Iu.os Iu.base Iu.hok Iu.bare fun b hb => ⟨(f3 b hb).1.2.2.2.1, (f3 b hb).1.2.1, (f3 b hb).1.2.2.2.2.1, (f3 b hb).1.2.2.2.2.2⟩
      have nC : Hz s3.heap.objs.size = none := by rw [← eL]; exact Iu.free
      obtain ⟨mm, hn, _⟩ := Iu.loc
      have hn : u.heap.Ns ce.locals mm := hn
      rw [eL] at hn
      obtain ⟨f0, f1, f2, f3, f4, f5⟩ := I3.fpOk (Nat.le_refl _) nC
      exact ⟨mm, hn, fun h'' sb => ⟨.ref D, Hz, I7.turned (t' := u.toks) (fun b o hb e => (sb.2 b hb).trans e) nC f1 f3 f4 f5, rfl, fin⟩⟩
    · refine thnF (T.item (X.blk s3 H3 scope ce fp) rfl rfl rfl hc i [] z _ Hz (fun _ _ => False) Iz (stand Iz nz) stz go) fun r u ⟨uv, er, q6⟩ => ?_
      subst er
      refine thnF q6 fun _ s7 ⟨x, H7, I7, r7, y7, st7, n7⟩ => ?_
      have I7' := I7.pinned (stand I7 n7) (T.obj _ _ st7)
      refine thnF (pg.run _ s7 _ H7 x uv _ I7' r7 (step x H7 y7)) fun _ s8 ⟨σ8, H8, I8, ew, q8⟩ => ?_
      refine thnF (pt.run _ s8 σ8 H8 _ I8 q8) fun b s9 ⟨H9, I9, q9⟩ => ?_
      cases b with
      | false =>
        rw [if_neg Bool.false_ne_true] at q9 ⊢
        exact back dn st7 ew I9 q9
      | true =>
        rw [if_pos rfl] at q9 ⊢
        refine thnF (pe.run _ s9 σ8 H9 _ I9 q9) fun yv s10 ⟨y, H10, I10, r10, L, b, k, ey, hb, hDD, hL, few, nx⟩ => ?_
        subst ey
        obtain rfl : yv = Value.ref b := r10
        exact tu_put (X := X.blk s3 H3 scope ce fp) I10 (by show X.A.units + 8 < cLine; omega) hDD hb hL few fun u L' c1 c2 Iu => back dn st7 ew Iu (nx L' c1 c2)
  exact PpSet.codeAny_compStart_set loop (T.self X.A 0 _ _ _ st4 loop)
end
end HTr
namespace HTr
open PySem PySem.Spec PyProof.Rows PyProof.Rows.G L2
theorem sort_out {h : Heap} {shape : Nat → Bool} {vs : List Value} {st' : SortSt} (hp : (arrOf st').Perm (pairsOf vs)) (hs : SortedToK (tupKindC h shape) (arrOf st') (pairsOf vs).size) :
    ((arrOf st').map (·.2)).toList.Perm vs ∧ ((arrOf st').map (·.2)).toList.Pairwise (fun u v => clt (keyOf h shape v) (keyOf h shape u) = false) := by
  have hpl : (arrOf st').toList.Perm (vs.zip vs) := by
    have := hp.toList
    rwa [pairsOf_toList] at this
  have e2 : (vs.zip vs).map (·.2) = vs := by rw [List.map_snd_zip]; exact Nat.le_refl _
  have sz : (arrOf st').size = (pairsOf vs).size := hp.size_eq
  refine ⟨by have := hpl.map (·.2); rw [e2] at this; simpa using this, ?_⟩
  rw [List.pairwise_iff_getElem]
  intro i j hi hj hij
  have li : i < (arrOf st').size := by simpa using hi
  have lj : j < (arrOf st').size := by simpa using hj
  have key : ∀ i (l : i < (arrOf st').size), KK (tupKindC h shape) (arrOf st') i = keyOf h shape ((arrOf st')[i].2) := fun i l => by
    unfold KK keyOf
    rw [Array.getElem?_eq_getElem l]
    have m : (arrOf st')[i] ∈ (vs.zip vs) := hpl.mem_iff.mp (by simp)
    have d : (arrOf st')[i].1 = (arrOf st')[i].2 := (mem_zip_self (p := (arrOf st')[i]) m).1 |> fun z => by first | exact z | exact z.symm
    simp only [d]
  have z := hs i j (Nat.le_of_lt hij) (by omega)
  rw [key i li, key j lj] at z
  simp only [Array.toList_map, List.getElem_map, Array.getElem_toList]
  exact z
theorem keyOf_tu {P : Program} {w : World} {h : Heap} {shape : Nat → Bool} {b : Addr} {k : List Key} (hk : isTu P w h k b) (hsh : shp shape 0 k = true) (hne : k ≠ []) :
    tupKeyC h shape (.ref b) = some (k.map ckey) ∧ ∃ f, TupOf h shape (.ref b) f := by
  obtain ⟨o, its, n, ho, hc, hd, hi⟩ := hk
  have all : ∀ {kk : List Key} {us : List Value} (i : Nat), ItemsAre (mixKind P w) kk us → shp shape i kk = true → tupItems shape i us = some (kk.map ckey) := by
    intro kk us i hi
    induction hi generalizing i with
    | nil => intro _; rfl
    | @cons k0 u ks us h1 _ ih =>
      intro sh
      cases k0 with
      | inl x =>
        obtain ⟨t, e⟩ := Value.isInt_shape (show Value.isInt x u = true from h1)
        subst e
        unfold shp at sh
        rw [Bool.and_eq_true] at sh
        unfold tupItems
        rw [if_neg (by simpa using sh.1), ih (i + 1) sh.2]
        rfl
      | inr x =>
        have h2 : Value.isStrOf x u = true := h1
        cases u with
        | str y t =>
          have e : y = x := by simpa [Value.isStrOf] using h2
          subst e
          unfold shp at sh
          rw [Bool.and_eq_true] at sh
          unfold tupItems
          rw [if_pos sh.1, ih (i + 1) sh.2]
          rfl
        | _ => cases h2
  refine ⟨?_, ?_⟩
  · unfold tupKeyC
    rw [if_pos (by simp [isTupObj, ho, hc])]
    unfold tupKey
    simp only [ho, hd]
    exact all 0 hi hsh
  · generalize hl : its.toList = l at hi
    have h0 : ∀ f r, l = f :: r → its[0]? = some f := fun f r e => by
      have z : its.toList[0]? = some f := by rw [hl, e]; rfl
      simpa using z
    cases hi with
    | nil => exact absurd rfl hne
    | @cons k0 u ks us h1 r =>
      refine ⟨u, b, o, its, n, rfl, ho, hc, hd, h0 _ _ rfl, fun e => ?_, fun e => ?_⟩
      · cases k0 with
        | inl x => obtain ⟨t, e⟩ := Value.isInt_shape (show Value.isInt x u = true from h1); exact ⟨x, t, e⟩
        | inr x => simp [shp, e] at hsh
      · cases k0 with
        | inl x => simp [shp, e] at hsh
        | inr x =>
          have h2 : Value.isStrOf x u = true := h1
          cases u with
          | str y t => exact ⟨y, t, rfl⟩
          | _ => cases h2
def rSortedST (K : PySem.W.Frag) (P : Program) (w : World) : List V → Hp → VK → Prop := fun vs H Q => ∃ (a : Addr) (L : List (Addr × List Key)) (shape : Nat → Bool), vs = [V.ref a] ∧ H a = some (TuO P w a L) ∧ (∀ q ∈ L, SqT K H q.1 (q.2.map kV)) ∧
  (∀ q ∈ L, shp shape 0 q.2 = true ∧ q.2 ≠ []) ∧ ∀ (M : List (Addr × List Key)) (p : Addr), M.Perm L → (M.map (·.2)).Nodup → M.Pairwise (fun x y => clt (y.2.map ckey) (x.2.map ckey) = false) → H p = none → Q (.ref p) (upd H p (.lst (M.map fun q => V.ref q.1)))
section
variable {X : Cx}
theorem cr_sortedST (hcalm : X.calm = true) : CallR X (.builtin "sorted") (rSortedST X.K X.prog X.w) := by
  intro pins s σ H vs us Q I r h
  obtain ⟨a, L, shape, rfl, ha, hL, hS, q⟩ := h
  obtain ⟨u, rfl, ru⟩ := vals1 r
  obtain rfl : u = Value.ref a := ru
  obtain ⟨⟨es, ep, t, R⟩, _⟩ := I.hok a _ ha
  obtain ⟨o, ho, hex, hd⟩ := R.obj
  have rm := R.rom
  have lit := R.lit
  have sm : setMost = 4900 := rfl
  have fits : t.fits es.size = true := fits_of R.rws R.tbl (by omega)
  have tus : ∀ q ∈ L, isTu X.prog X.w s.heap q.2 q.1 := fun q hq => inv_tu I (hL q hq)
  refine Calls.call_function_entry kind_sorted plain_sorted entry_sorted (args_sorted1 _) ?_
  unfold Builtin.«sorted»
  refine wpAny_bind (m := checkCount "sorted" 1 1 _) (wpAny_pure ?_)
  refine wpAny_bind (collect_big (A := X.A.in1) (I.ok.hd hcalm) ⟨o, ho, hex.1, hd⟩ fits (by rw [rowT_len R.rws, sizeLine_eq]; omega) R.tbl.ris R.led fun s1 vs k1 hz g1 o1 pm => ?_)
  have e1 : es.toList.map (·.2) = L.map fun q => Value.ref q.1 := by rw [R.rws, List.map_map]; rfl
  rw [e1] at pm
  obtain ⟨M0, p0, e0⟩ := perm_map_inv pm
  subst e0
  have lv : (M0.map fun q => Value.ref q.1).length < setMost := by rw [List.length_map, p0.length_eq]; exact lit
  refine wpAny_bind (wpAny_newList ?_ (by rw [sizeLine_eq]; omega))
  have hoL : (s1.heap.push (seqObj "list" (M0.map fun q => Value.ref q.1).toArray 0)).get? s1.heap.objs.size = some (seqObj "list" (M0.map fun q => Value.ref q.1).toArray 0) := Heap.get?_push_size _ rfl
  have tu1 : ∀ q ∈ M0, isTu X.prog X.w (s1.heap.push (seqObj "list" (M0.map fun q => Value.ref q.1).toArray 0)) q.2 q.1 := fun q hq => tu_kept (tus q (p0.mem_iff.mp hq)) fun c u e => Heap.get?_push_of_some _ (k1 c u e)
  have sh1 : ∀ q ∈ M0, shp shape 0 q.2 = true ∧ q.2 ≠ [] := fun q hq => hS q (p0.mem_iff.mp hq)
  revert hoL tu1
  generalize hh1 : s1.heap.push (seqObj "list" (M0.map fun q => Value.ref q.1).toArray 0) = h1
  intro hoL tu1
  obtain ⟨fs, hfs⟩ := TupsOf_of (h := h1) (shape := shape) (vs := M0.map fun q => Value.ref q.1) fun v hv => by
    obtain ⟨q, hq, e⟩ := List.mem_map.mp hv
    subst e
    exact (keyOf_tu (tu1 q hq) (sh1 q hq).1 (sh1 q hq).2).2
  have hK : ∀ v, v ∈ (M0.map fun q => Value.ref q.1) → ∃ l, tupKeyC h1 shape v = some l := fun v hv => by
    obtain ⟨q, hq, e⟩ := List.mem_map.mp hv
    subst e
    exact ⟨_, (keyOf_tu (tu1 q hq) (sh1 q hq).1 (sh1 q hq).2).1⟩
  refine wpAny_bind (wpAny_holding (wpAny_call_entry slot_list_sort ⟨_, hoL, rfl⟩ entry_list_sort (list_sort_tups (s := { s1 with heap := h1 }) hoL hfs hK (by rw [sizeLine_eq]; omega) fun st' hp hs _ => ?_) (args_list_sort _)))
  obtain ⟨x1, x2⟩ := sort_out hp hs
  obtain ⟨M, pM, eM⟩ := perm_map_inv x1
  have pML : M.Perm L := pM.trans p0
  have pw : M.Pairwise (fun x y => clt (y.2.map ckey) (x.2.map ckey) = false) := by
    rw [eM] at x2
    refine List.Pairwise.imp_of_mem (fun {x y} hx hy z => ?_) (List.pairwise_map.mp x2)
    have kx : keyOf h1 shape (.ref x.1) = x.2.map ckey := by unfold keyOf; rw [(keyOf_tu (tu1 x (pM.mem_iff.mp hx)) (sh1 x (pM.mem_iff.mp hx)).1 (sh1 x (pM.mem_iff.mp hx)).2).1]; rfl
    have ky : keyOf h1 shape (.ref y.1) = y.2.map ckey := by unfold keyOf; rw [(keyOf_tu (tu1 y (pM.mem_iff.mp hy)) (sh1 y (pM.mem_iff.mp hy)).1 (sh1 y (pM.mem_iff.mp hy)).2).1]; rfl
    rw [← kx, ← ky]
    exact z
  obtain ⟨c, hc⟩ := sortedHeap_at (vs := M0.map fun q => Value.ref q.1) (out := (arrOf st').map (·.2)) hoL
  have old : ∀ b u, s.heap.get? b = some u → (sortedHeap h1 s1.heap.objs.size (M0.map fun q => Value.ref q.1) ((arrOf st').map (·.2))).get? b = some u := fun b u e => by
    have e2 := k1 b u e
    have l := Heap.lt_size e2
    rw [sortedHeap_old (Nat.ne_of_lt l) (by rw [← hh1, size_push']; exact Nat.lt_succ_of_lt l), ← hh1]
    exact Heap.get?_push_of_some _ e2
  refine ⟨_, rfl, wpAny_pure ⟨_, rfl, ?_⟩⟩
  have hn : H s1.heap.objs.size = none := I.hok.fresh hz
  have hv : Vals (M.map fun q => V.ref q.1) ((arrOf st').map (·.2)).toList := by
    rw [eM]
    generalize M = M'
    induction M' with
    | nil => exact .nil
    | cons m M' ih => exact .cons rfl ih
  have hlen : (M.map fun q => V.ref q.1).length ≤ sizeLine := by rw [List.length_map, pML.length_eq, sizeLine_eq]; omega
  have hobj : (sortedHeap h1 s1.heap.objs.size (M0.map fun q => Value.ref q.1) ((arrOf st').map (·.2))).get? s1.heap.objs.size = some { cls := .type "list", data := .seq (((arrOf st').map (·.2)).toList.toArray) c } := by rw [hc]
  obtain ⟨hp1, gn1, dr1, tk1, os1⟩ := s1
  dsimp only at g1 o1
  subst o1 g1
  have J : Inv X pins σ (upd H hp1.objs.size (.lst (M.map fun q => V.ref q.1))) { s with heap := sortedHeap h1 hp1.objs.size (M0.map fun q => Value.ref q.1) ((arrOf st').map (·.2)), gens := s.gens, drawn := dr1, toks := tk1 } :=
    I.call (ch := []) (Un.laid old hz hn) (I.hok.laid old hz ⟨hlen, _, c, hv, hobj⟩) I.bare (fun _ z => nomatch z)
  exact ⟨.ref hp1.objs.size, _, J, rfl, q M hp1.objs.size pML ((pML.map (·.2)).nodup_iff.mpr R.dif) pw hn⟩
end
end HTr
namespace HTr
open PySem L2
theorem codeO_un (c : Addr) (q : Str) : ∃ (h : Heap) (o : Obj) (vs : Array Value), h.get? c = some o ∧ o.data = .fields vs ∧ ∃ t : Tok, vs[1]? = some (.str q t) := by
  let ob : Obj := { cls := .none, dict := none, data := .fields #[.none, .str q default], slots := #[] }
  refine ⟨{ objs := Array.replicate (c + 1) ob }, ob, #[.none, .str q default], ?_, rfl, default, rfl⟩
  unfold Heap.get?
  have e : (Array.replicate (c + 1) ob)[c]? = some ob := by simp
  show (match (Array.replicate (c + 1) ob)[c]? with | some ⟨_, _, .freed, _⟩ => none | o => o) = some ob
  rw [e]
theorem plain_ext {p : Heap → Prop} (a : Addr) (h : ∀ (hp : Heap) (o : Obj) (vs : Array Value), hp.get? a = some o → o.data = .fields vs → ¬ p hp) : ∀ q, HO.ext p ≠ LamX.CodeO a q := by
  intro q e
  unfold LamX.CodeO at e
  obtain ⟨hp, o, vs, h1, h2, t, h3⟩ := codeO_un a q
  have : p hp := by
    have e2 := HO.ext.inj e
    rw [e2]
    exact ⟨o, vs, t, h1, h2, h3⟩
  exact h hp o vs h1 h2 this
theorem tuO_ne (P : Program) (w : World) (a : Addr) (L : List (Addr × List Key)) (q : Str) : TuO P w a L ≠ LamX.CodeO a q :=
  plain_ext a (fun hp o vs h1 h2 ⟨es, ep, t, T⟩ => by
    obtain ⟨o', e1, _, e2⟩ := T.obj
    rw [h1] at e1
    cases e1
    rw [h2] at e2
    cases e2) q
section
variable {K : PySem.W.Frag} {F H : Hp}
theorem RT.key {kk : List Key} {v : V} (h : RT K F (tkey kk) v) : ∃ b, v = .ref b ∧ SqT K F b (kk.map kV) := by
  obtain ⟨b, vs, e, h1, h2⟩ := h
  rw [keyT_kV h2] at h1
  exact ⟨b, e, h1⟩
theorem RTs.keyT : ∀ kk : List Key, RTs K F (kk.map HTr.keyT) (kk.map kV)
  | [] => rfl
  | .inl i :: kk => ⟨.int i, _, rfl, rfl, RTs.keyT kk⟩
  | .inr x :: kk => ⟨.str x, _, rfl, rfl, RTs.keyT kk⟩
theorem RT.ofKey {kk : List Key} {b : Addr} (h : SqT K F b (kk.map kV)) : RT K F (tkey kk) (.ref b) := ⟨b, _, rfl, h, RTs.keyT kk⟩
def kOrd (us : List (List Key)) : Prop := us.Pairwise fun a b => clt (b.map ckey) (a.map ckey) = false
def fSorted (ls : List L) (G : L → Prop) : Prop := match ls with
  | [l] => match itemsF l with
    | some ts => ∃ (kks : List (List Key)) (shape : Nat → Bool), ts = kks.map tkey ∧ (∀ kk ∈ kks, shp shape 0 kk = true ∧ kk ≠ []) ∧ ∀ us : List (List Key), us.Perm kks → kOrd us → G (.lst (us.map fun k => .fz (tkey k)))
    | none => False
  | _ => False
theorem zip_keys : ∀ {kks : List (List Key)} {vs : List V}, RTs K F (kks.map tkey) vs → vs.length = kks.length ∧ ∀ p ∈ vs.zip kks, ∃ t, p.1 = .ref t ∧ SqT K F t (p.2.map kV)
  | [], _, h => by cases (show _ = _ from h); exact ⟨rfl, fun p hp => by simp at hp⟩
  | kk :: kks, _, ⟨v, r, e, h1, h2⟩ => by
    subst e
    obtain ⟨e1, e2⟩ := zip_keys h2
    refine ⟨by simp [e1], fun p hp => ?_⟩
    rw [List.zip_cons_cons] at hp
    rcases List.mem_cons.mp hp with z | z
    · subst z
      exact h1.key
    · exact e2 p z
theorem RTs.ofPairs : ∀ {l : List (V × List Key)}, (∀ p ∈ l, ∃ t, p.1 = .ref t ∧ SqT K F t (p.2.map kV)) → RTs K F ((l.map (·.2)).map tkey) (l.map (·.1))
  | [], _ => rfl
  | p :: l, h => by
    obtain ⟨t, e, q⟩ := h p (by simp)
    refine ⟨p.1, _, rfl, ?_, RTs.ofPairs fun q hq => h q (by simp [hq])⟩
    rw [e]
    exact RT.ofKey q
theorem zip_map_right {α β γ : Type} (f : β → γ) : ∀ (xs : List α) (ys : List β), xs.zip (ys.map f) = (xs.zip ys).map fun p => (p.1, f p.2)
  | [], _ => by simp
  | _ :: _, [] => by simp
  | x :: xs, y :: ys => by simp [zip_map_right f xs ys]
theorem map_snd_zip2 {α β : Type} : ∀ (xs : List α) (ys : List β), xs.length = ys.length → (xs.zip ys).map (·.2) = ys
  | [], [], _ => rfl
  | x :: xs, y :: ys, h => by simp [map_snd_zip2 xs ys (by simpa using h)]
theorem cg_sorted : CaG K (rSortedTG K) fSorted := by
  intro F H vs ls B Q G fh h g o
  unfold fSorted at g
  split at g
  · rename_i l
    obtain ⟨v, e, h1⟩ := h.one
    subst e
    split at g
    · rename_i ts et
      obtain ⟨kks, shape, ek, hsh, g⟩ := g
      obtain ⟨a, xs, ev, ha, hv⟩ := itemsF_ok h1 fh et
      subst ev ek
      obtain ⟨el, hz⟩ := zip_keys hv
      have emem : ∀ p ∈ xs.zip kks, p.2 ∈ kks := fun p hp => (List.of_mem_zip hp).2
      refine ⟨a, xs, kks.map fun k => k.map ckey, shape, rfl, .inl (.inl ha), by rw [List.length_map]; exact el, fun p hp => ?_, fun zs p hp hs hn => ?_⟩
      · rw [zip_map_right] at hp
        obtain ⟨q, hq, e⟩ := List.mem_map.mp hp
        subst e
        obtain ⟨t, e1, e2⟩ := hz q hq
        exact ⟨t, q.2, e1, seqT_same fh e2, rfl, hsh _ (emem q hq)⟩
      · rw [zip_map_right] at hp
        obtain ⟨ys, y1, y2⟩ := perm_map_inv hp
        subst y2
        have us := y1.map (·.2)
        rw [map_snd_zip2 xs kks el] at us
        have hr : RTs K F ((ys.map (·.2)).map tkey) (ys.map (·.1)) := RTs.ofPairs fun p hp => hz p (y1.mem_iff.mp hp)
        have gg := g _ us (by unfold kOrd; rw [List.pairwise_map] at hs ⊢; exact hs)
        have e9 : (List.map (fun x => x.1) (ys.map fun p => (p.1, p.2.map ckey))) = ys.map (·.1) := by rw [List.map_map]; rfl
        rw [e9]
        have e10 : L.lst ((ys.map (·.2)).map fun k => L.fz (tkey k)) = .lst (((ys.map (·.2)).map tkey).map L.fz) := by rw [List.map_map, List.map_map, List.map_map]; rfl
        rw [e10] at gg
        exact o.lstF fh gg hr hn
    · exact g.elim
  · exact g.elim
end
def compK (g : MG) (c : MT) (m : MR) : List T → S → List (List Key) → (List (List Key) → Prop) → Prop
  | [], _, acc, Q => Q acc
  | t :: ts, S0, acc, Q => g t S0 fun S1 => c S1 fun b => if b = true then m S1 fun l _ => ∃ kk, l = .fz (tkey kk) ∧ acc.length + 1 < 4900 ∧ compK g c m ts S0 (acc ++ [kk]) Q else compK g c m ts S0 acc Q
def srtSet (kks : List (List Key)) (G : L → Prop) : Prop := ∃ shape : Nat → Bool, (∀ kk ∈ kks, shp shape 0 kk = true ∧ kk ≠ []) ∧ ∀ us : List (List Key), us.Nodup → (∀ k, k ∈ us ↔ k ∈ kks) → kOrd us → G (.lst (us.map fun k => .fz (tkey k)))
section
variable {K : PySem.W.Frag} {ws : List Nat} {P : Program} {w : World}
theorem set_core {J : It} {ts : List T} {g : MG} {c : MT} {m : MR} {Q : VK} {G : L → Bool → Prop} {F0 H0 F1 H1 : Hp} {S0 : S} {σ0 : St} {A0 : List Addr} {D : Addr} {vs : List Nat} (hw : ∀ j, j ∈ ws → j ∈ vs)
    (wq : ∀ l o, G l o → ∀ v F' H' B, RP K F0 H0 F' H' → RL K F' H' l v B → (o = true → B.Nodup ∧ ∀ b ∈ B, F' b = none ∧ H0 b = none) → Q v H')
    (hgo : ∀ i H, Same H1 H → i < ts.length → J.go i H) (hst : ∀ i H, Same H1 H → ts.length = i → J.stop i H)
    (hy : ∀ i F H x H', Same F1 F → Same H1 H → Same F H → i < ts.length → J.yld i H x H' → ∃ F' t, RP K F H F' H' ∧ ts[i]? = some t ∧ RT K F' t x)
    (k0 : Ok K F1 H1 S0 σ0 A0) (r0 : RP K F0 H0 F1 H1) (hD : H1 D = none) (q0 : compK g c m ts (wipeS S0 vs) [] fun kks => srtSet kks fun l => G l true) :
    ∃ W : Nat → Nat → Hp → Prop, (∃ m, W 0 m (upd H1 D (TuO P w D []))) ∧ ∀ i mm H, W i mm H →
      (J.stop i H ∧ rSortedST K P w [.ref D] H Q) ∨ (J.go i H ∧ ∃ Nx : Hp → Prop, (∀ H', Nx H' → ∃ m', m' < mm ∧ W (i + 1) m' H') ∧ ∀ x H', J.yld i H x H' → liftG K ws g x (wipe σ0 vs) H' fun σ2 H2 => wipe σ2 vs = wipe σ0 vs ∧ liftT K c σ2 H2 fun b H3 =>
        if b = true then liftR K m σ2 H3 (addsT K P w D Nx) else Nx H3) := by
  let Inn : Nat → Hp → Prop := fun i H => ∃ F acc L, H D = some (TuO P w D L) ∧ F D = none ∧ RP K F1 H1 F H ∧ (∀ q ∈ L, SqT K F q.1 (q.2.map kV)) ∧ (∀ k, k ∈ L.map (·.2) ↔ k ∈ acc) ∧ L.length ≤ acc.length ∧ compK g c m (ts.drop i) (wipeS S0 vs) acc fun kks => srtSet kks fun l => G l true
  refine ⟨fun i mm H => mm = ts.length - i ∧ i ≤ ts.length ∧ Inn i H, ⟨ts.length, by simp, Nat.zero_le _, F1, [], [], upd_same, Same.no r0.fh hD, RP.new r0.fh _ hD, by simp, by simp, by simp, by simpa using q0⟩, ?_⟩
  rintro i mm H ⟨rfl, hi, F, acc, L, hHD, hFD, rp, hL, hm, hlen, q⟩
  by_cases hlt : i < ts.length
  · refine .inr ⟨hgo i H rp.hh hlt, Inn (i + 1), fun H' z => ⟨ts.length - (i + 1), by omega, rfl, hlt, z⟩, fun x H' y => ?_⟩
    obtain ⟨F', u, rp', eu, hu⟩ := hy i F H x H' rp.ff rp.hh rp.fh hlt y
    have ed : ts.drop i = u :: ts.drop (i + 1) := by
      obtain ⟨z1, z2⟩ := List.getElem?_eq_some_iff.mp eu
      rw [List.drop_eq_getElem_cons z1, z2]
    rw [ed] at q
    obtain ⟨A', kw⟩ := (k0.rp (rp.trans rp')).wipe vs
    refine ⟨F', _, A', u, _, kw, hu, q, fun S2 σ2 A2 g2 k2 s2 j2 l2 => ⟨?_, ?_⟩⟩
    · rw [← wipe_wipe (σ := σ0) vs]
      exact wipe_eq l2 fun j hj => j2 j fun z => hj (hw j z)
    · refine ⟨F', S2, A2, _, k2, g2, fun b gb F3 H3 r3 => ?_⟩
      have rr3 := (rp.trans rp').trans r3
      have D3 : H3 D = some (TuO P w D L) := r3.hh.k (rp'.hh.k hHD (fun _ z => (by unfold TuO at z; cases z))) (fun _ z => (by unfold TuO at z; cases z))
      have one : ∀ {X Y X2 Y2 : Hp}, RP K X Y X2 Y2 → Y D = some (TuO P w D L) → X D = none → X2 D = none := fun r e1 e2 => r.keepF (A := [D]) (fun a ha => by
        have : a = D := by simpa using ha
        subst this; rw [e1]; simp) (fun a ha => by
        have : a = D := by simpa using ha
        subst this; exact e2) D (by simp)
      have F3D : F3 D = none := one (rp'.trans r3) hHD hFD
      have L3 : ∀ q ∈ L, SqT K F3 q.1 (q.2.map kV) := fun q hq => seqT_same (rp'.trans r3).ff (hL q hq)
      cases b with
      | false =>
        rw [if_neg Bool.false_ne_true] at gb
        dsimp only
        rw [if_neg Bool.false_ne_true]
        exact ⟨F3, acc, L, D3, F3D, rr3, L3, hm, hlen, gb⟩
      | true =>
        rw [if_pos rfl] at gb
        dsimp only
        rw [if_pos rfl]
        refine ⟨F3, S2, A2, _, k2.rp r3, gb, fun l o ⟨kk, el, few, gq⟩ y F4 H4 B' r4 h4 o4 => ?_⟩
        subst el
        obtain ⟨_, h4⟩ := h4
        obtain ⟨b, ey, hb⟩ := h4.key
        have D4 : H4 D = some (TuO P w D L) := r4.hh.k D3 (fun _ z => (by unfold TuO at z; cases z))
        have F4D : F4 D = none := one r4 D3 F3D
        have rr4 := rr3.trans r4
        have L4 : ∀ q ∈ L, SqT K F4 q.1 (q.2.map kV) := fun q hq => seqT_same r4.ff (L3 q hq)
        refine ⟨L, b, kk, ey, seqT_same r4.fh hb, D4, fun q hq => seqT_same r4.fh (L4 q hq), by have sm : setMost = 4900 := rfl; omega, fun L' c1 c2 => ?_⟩
        refine ⟨F4, acc ++ [kk], L', upd_same, F4D, ⟨sameH_upd rr4.hx hD D4 ⟨(fun _ z => (by unfold TuO at z; cases z)), tuO_ne P w D L⟩, rr4.ff, same_updF rr4.fh F4D, rr4.nw⟩, ?_, ?_, ?_, gq⟩
        · intro q hq
          by_cases hk : kk ∈ L.map (·.2)
          · rw [c1 hk] at hq
            exact L4 q hq
          · rcases List.mem_cons.mp ((c2 hk).mem_iff.mp hq) with z | z
            · rw [z]; exact hb
            · exact L4 q z
        · intro k
          by_cases hk : kk ∈ L.map (·.2)
          · rw [c1 hk, hm k, List.mem_append]
            refine ⟨.inl, fun z => z.elim id fun z => ?_⟩
            have : k = kk := by simpa using z
            rw [this]
            exact (hm kk).mp hk
          · rw [((c2 hk).map (·.2)).mem_iff, List.map_cons, List.mem_cons, List.mem_append, hm k]
            simp [or_comm]
        · by_cases hk : kk ∈ L.map (·.2)
          · rw [c1 hk]; simp; omega
          · rw [(c2 hk).length_eq]; simp; omega
  · have e1 : i = ts.length := by omega
    subst e1
    rw [List.drop_length] at q
    obtain ⟨shape, hsh, q⟩ := q
    refine .inl ⟨hst _ H rp.hh rfl, D, L, shape, rfl, hHD, fun q hq => seqT_same rp.fh (hL q hq), fun q hq => hsh _ ((hm q.2).mp (List.mem_map.mpr ⟨q, hq, rfl⟩)), fun M p pM nd so hp => ?_⟩
    have gg := q (M.map (·.2)) nd (fun k => by rw [(pM.map (·.2)).mem_iff]; exact hm k) (by unfold kOrd; rw [List.pairwise_map]; exact so)
    have hr : RTs K F ((M.map (·.2)).map tkey) (M.map fun q => V.ref q.1) := by
      have z := RTs.ofPairs (K := K) (F := F) (l := M.map fun q => (V.ref q.1, q.2)) fun p hp => by
        obtain ⟨q, hq, e⟩ := List.mem_map.mp hp
        subst e
        exact ⟨q.1, rfl, hL q (pM.mem_iff.mp hq)⟩
      simp only [List.map_map] at z ⊢
      exact z
    have e10 : HTr.L.lst ((M.map (·.2)).map fun k => HTr.L.fz (tkey k)) = HTr.L.lst (((M.map (·.2)).map tkey).map HTr.L.fz) := by simp only [List.map_map]; rfl
    rw [e10] at gg
    have rr := r0.trans rp
    have out : Out K F H (fun u => G u true) Q := fun u gu w' F4 H4 C r4 h4 nd fr =>
      wq u true gu w' F4 H4 C (rr.trans r4) h4 fun _ => ⟨nd, fun c hc => ⟨(fr c hc).1, none_of_dom rr.dom (fr c hc).2⟩⟩
    exact out.lstF rp.fh gg hr hp
end
end HTr
namespace HTr
open PySem L2
variable {EX : WX}
section
variable {X : Cx} {tg : Expr} {K : PySem.W.Frag} {ws vs : List Nat}
def iSeqA (K : PySem.W.Frag) (tl : TE) : TI := fun σ H R => tl σ H fun x H1 => (∃ a, x = .ref a ∧ (∃ xs, SqL K H1 a xs) ∧ R (Itl K a) H1) ∨ ∃ a, x = .ref a ∧ (∃ xs, SqT K H1 a xs) ∧ R (Itt K a) H1
theorem pi_seqA {l : Expr} {tl : TE} (hl : PE X l tl) : PI X tg l (iSeqA X.K tl) := by
  refine ⟨fun pins s σ H R I h => thn (hl.run pins s σ H _ I h) fun v s1 ⟨x, H1, I1, r1, q1⟩ => ?_⟩
  have top : ∀ b, b ∈ [s1.heap.objs.size] → FpOk X pins H1 b := fun b hb => by
    have e : b = s1.heap.objs.size := by simpa using hb
    subst e
    exact I1.fpOk (Nat.le_refl _) (I1.hok.fresh (Nat.le_refl _))
  rcases q1 with ⟨a, e, ⟨xs, hq⟩, q⟩ | ⟨a, e, ⟨xs, hq⟩, q⟩
  · subst e
    cases r1
    obtain ⟨its, rv, p, hz⟩ := I1.list hq
    exact wpAny_pyIter_list p.isList ⟨s1.heap.objs.size, [s1.heap.objs.size], _, _, H1, rfl, I1.kept (t' := s1.toks) fun b o e => Heap.get?_push_of_some _ e, turn_list a _, ⟨_, Heap.get?_push_size _ rfl, rfl, rfl⟩, top, q⟩
  · subst e
    cases r1
    obtain ⟨its, rv, p, hz⟩ := I1.tuple hq
    exact wpAny_pyIter_tuple (show s1.heap.IsTuple a its.toArray from p) ⟨s1.heap.objs.size, [s1.heap.objs.size], _, _, H1, rfl, I1.kept (t' := s1.toks) fun b o e => Heap.get?_push_of_some _ e, turn_tuple a _, ⟨_, Heap.get?_push_size _ rfl, rfl, rfl⟩, top, q⟩
def sForS (m : MR) (g : MG) (b : MS) : MS := fun e S => m S fun l o => o = true ∧ match l.tree with
  | .lst ts => forL g b ts e S
  | .tup ts => forL g b ts e S
  | _ => False
theorem ls_forS {st : Stmt} {m : MR} {g : MG} {b : MS} (h : PS X st (tFor (iSeqA K (liftR K m)) (liftG K ws g) (liftS K EX b))) : PS X st (liftS K EX (sForS m g b)) := psW h fun D σ H ⟨F, S, A, k, e, q, c⟩ =>
  ⟨F, S, A, _, k, q, fun l o ⟨eo, q1⟩ v F1 H1 B r1 h1 o1 => by
    obtain ⟨nB, fB⟩ := o1 eo
    obtain ⟨rp, k2, ht⟩ := k.freeze r1 h1 fB
    split at q1
    · rename_i ts et
      rw [et] at ht
      obtain ⟨a, us, ev, ha, hv⟩ := ht
      refine .inl ⟨a, ev, ⟨us, .inl (.inl (k2.fh.g ha))⟩, for_core (J := Itl K a) (ts := ts) (fun i F H s1 s2 hi => ?_) (fun i F H s1 s2 hi => ?_) (fun i F H x H' s1 s2 hi y => ?_) k2 q1 (c.on rp.step)⟩
      · exact (list_walk (s2.g (s1.g ha)) hv).1 i H (Same.refl _) hi
      · exact (list_walk (s2.g (s1.g ha)) hv).2.1 i H (Same.refl _) hi
      · exact (list_walk (s2.g (s1.g ha)) hv).2.2 i F H x H' s1 (Same.refl _) s2 hi y
    · rename_i ts et
      rw [et] at ht
      obtain ⟨a, us, ev, ha, hv⟩ := ht
      refine .inr ⟨a, ev, ⟨us, seqT_same k2.fh ha⟩, for_core (J := Itt K a) (ts := ts) (fun i F H s1 s2 hi => ?_) (fun i F H s1 s2 hi => ?_) (fun i F H x H' s1 s2 hi y => ?_) k2 q1 (c.on rp.step)⟩
      · exact (tup_walk (seqT_same (s1.trans s2) ha) hv).1 i H (Same.refl _) hi
      · exact (tup_walk (seqT_same (s1.trans s2) ha) hv).2.1 i H (Same.refl _) hi
      · exact (tup_walk (seqT_same (s1.trans s2) ha) hv).2.2 i F H x H' s1 (Same.refl _) s2 hi y
    · exact q1.elim⟩
def rCompS (it : MR) (g : MG) (c : MT) (m : MR) (vs : List Nat) : MR := fun S Q => it S fun l _ => match itemsF l, itemsFT l with
  | some ts, _ => compL g c m ts (wipeS S vs) [] fun ls => Q (.lst ls) true
  | none, some ts => compL g c m ts (wipeS S vs) [] fun ls => Q (.lst ls) true
  | none, none => False
theorem w_compS {it m : MR} {g : MG} {c : MT} (hw : ∀ j, j ∈ ws → j ∈ vs) : ∀ σ H Q, liftR K (rCompS it g c m vs) σ H Q → tLc (iSeqA K (liftR K it)) (liftG K ws g) (liftT K c) (liftR K m) vs σ H Q := fun σ H Q ⟨F, S, A, G, k, q, w⟩ =>
  ⟨F, S, A, _, k, q, fun l o gq v F1 H1 B r1 h1 o1 => by
    split at gq
    · rename_i ts _ et
      obtain ⟨a, us, ev, ha, hv⟩ := itemsF_ok h1 r1.fh et
      obtain ⟨w1, w2, w3⟩ := list_walk ha hv
      exact .inl ⟨a, ev, ⟨us, .inl (.inl ha)⟩, fun D hD => comp_core hw w w1 w2 w3 (k.rp r1) r1 hD gq⟩
    · rename_i ts _ et
      obtain ⟨a, us, ev, ha, hv⟩ := itemsFT_ok h1 r1.fh et
      obtain ⟨w1, w2, w3⟩ := tup_walk ha hv
      exact .inr ⟨a, ev, ⟨us, ha⟩, fun D hD => comp_core hw w w1 w2 w3 (k.rp r1) r1 hD gq⟩
    · exact gq.elim⟩
theorem lr_compS {e : Expr} {it m : MR} {g : MG} {c : MT} (hw : ∀ j, j ∈ ws → j ∈ vs) (h : PE X e (tLc (iSeqA K (liftR K it)) (liftG K ws g) (liftT K c) (liftR K m) vs)) : PE X e (liftR K (rCompS it g c m vs)) := peW h (w_compS hw)
def rSortSet (it : MR) (g : MG) (c : MT) (m : MR) (vs : List Nat) : MR := fun S Q => it S fun l _ => match itemsF l, itemsFT l with
  | some ts, _ => compK g c m ts (wipeS S vs) [] fun kks => srtSet kks fun u => Q u true
  | none, some ts => compK g c m ts (wipeS S vs) [] fun kks => srtSet kks fun u => Q u true
  | none, none => False
theorem lr_sortSet {e : Expr} {P : Program} {w : World} {it m : MR} {g : MG} {c : MT} (hw : ∀ j, j ∈ ws → j ∈ vs) (h : PE X e (tCB (rSortedST K P w) (tCons (tScT K P w (iSeqA K (liftR K it)) (liftG K ws g) (liftT K c) (liftR K m) vs) tNil))) :
    PE X e (liftR K (rSortSet it g c m vs)) := peW h fun σ H Q ⟨F, S, A, G, k, q, wq⟩ => ⟨F, S, A, _, k, q, fun l o gq v F1 H1 B r1 h1 o1 => by
    split at gq
    · rename_i ts _ et
      obtain ⟨a, us, ev, ha, hv⟩ := itemsF_ok h1 r1.fh et
      obtain ⟨w1, w2, w3⟩ := list_walk ha hv
      exact .inl ⟨a, ev, ⟨us, .inl (.inl ha)⟩, fun D hD => set_core hw wq w1 w2 w3 (k.rp r1) r1 hD gq⟩
    · rename_i ts _ et
      obtain ⟨a, us, ev, ha, hv⟩ := itemsFT_ok h1 r1.fh et
      obtain ⟨w1, w2, w3⟩ := tup_walk ha hv
      exact .inr ⟨a, ev, ⟨us, ha⟩, fun D hD => set_core hw wq w1 w2 w3 (k.rp r1) r1 hD gq⟩
    · exact gq.elim⟩
def rgT (a b : Int) : List T := rangeT a (b - a).toNat
theorem RTs.rg {F : Hp} (a b : Int) : RTs K F (rgT a b) (rgV a b) := by
  unfold rgT rgV rangeT
  generalize List.range (b - a).toNat = l
  induction l with
  | nil => rfl
  | cons i l ih => exact ⟨.int (a + (i : Nat)), _, rfl, rfl, ih⟩
def rLstR1 (m : MR) : MR := fun S Q => m S fun l _ => match l with
  | .fz (.int n) => RgOk 0 n ∧ Q (.lst ((rgT 0 n).map .fz)) true
  | _ => False
theorem lr_lstR1 {e : Expr} {m : MR} (h : PE X e (tLstRg (tRg1 (liftR K m)))) : PE X e (liftR K (rLstR1 m)) := peW h fun σ H Q ⟨F, S, A, G, k, q, w⟩ => ⟨F, S, A, _, k, q, fun l o g v F1 H1 B r1 h1 _ => by
    split at g
    · rename_i n
      obtain ⟨_, rfl⟩ := h1
      have out : Out K F1 H1 (fun u => G u true) Q := fun u gu w' F4 H4 C r4 h4 nd fr =>
        w u true gu w' F4 H4 C (r1.trans r4) h4 fun _ => ⟨nd, fun c hc => ⟨(fr c hc).1, none_of_dom r1.dom (fr c hc).2⟩⟩
      exact ⟨n, rfl, g.1, fun p hp => out.lstF r1.fh g.2 (RTs.rg 0 n) hp⟩
    · exact g.elim⟩
def rDnew (tk : Bool) : MR := fun _ Q => Q (.dct tk [] []) true
theorem lr_dnewT {e : Expr} (h : PE X e tDNewT) : PE X e (liftR K (rDnew true)) := peW h fun σ H Q ⟨F, S, A, G, k, q, w⟩ => fun p hp => by
  refine w _ true q (.ref p) F _ [p] (RP.new k.fh _ hp) ⟨p, [], rfl, rfl, .inr ⟨rfl, [], upd_same, rfl, rfl, rfl⟩⟩ fun _ => ⟨by simp, fun b hb => ?_⟩
  have : b = p := by simpa using hb
  subst this
  exact ⟨Same.no k.fh hp, hp⟩
theorem frz_fz (ts : List T) : frz (ts.map L.fz) = ts.map L.fz := by unfold frz; rw [L.trees_fz]
end
end HTr
namespace HTr
open PySem L2
variable {EX : WX}
section
variable {X : Cx} {K : PySem.W.Frag}
theorem w_aCons {m : MR} {n : MA} : ∀ σ H Q, liftA K (aCons m n) σ H Q → tCons (liftR K m) (liftA K n) σ H Q := fun σ H Q ⟨F, S, A, G, k, q, w⟩ => by
  refine ⟨F, S, A, _, k, q, fun l o g v F1 H1 B1 r1 h1 o1 => ?_⟩
  refine ⟨F1, S, A, _, k.rp r1, g, fun ls p g' us F2 H2 B2 r2 h2 o2 => ?_⟩
  refine w _ _ g' (v :: us) F2 H2 (B1 ++ B2) (r1.trans r2) ⟨v, us, B1, B2, rfl, rfl, h1.mono r2.ff (On.of r2.hh B1), h2⟩ fun e => ?_
  rw [Bool.and_eq_true] at e
  obtain ⟨n1, f1⟩ := o1 e.1
  obtain ⟨n2, f2⟩ := o2 e.2
  refine ⟨List.nodup_append.mpr ⟨n1, n2, fun a ha b hb e => by subst e; exact h1.dom a ha (f2 a hb).2⟩, fun b hb => ?_⟩
  rcases List.mem_append.mp hb with hb | hb
  · exact ⟨r2.keepF h1.dom (fun a ha => (f1 a ha).1) b hb, (f1 b hb).2⟩
  · exact ⟨(f2 b hb).1, none_of_dom r1.dom (f2 b hb).2⟩
theorem w_aNil : ∀ σ H Q, liftA K aNil σ H Q → tNil σ H Q := fun σ H Q ⟨F, S, A, G, k, q, w⟩ => w _ _ q [] F H [] (RP.refl k.fh) ⟨rfl, rfl⟩ own_nil
theorem pkW {kws : List Keyword} {t t' : TA} (h : PK X kws t) (w : ∀ σ H Q, t' σ H Q → t σ H Q) : PK X kws t' := ⟨fun pos pins s σ H Q I q => h.run pos pins s σ H Q I (w σ H Q q)⟩
theorem lk_nil {kws : List Keyword} (h : PK X kws tNil) : PK X kws (liftA K aNil) := pkW h w_aNil
theorem lk_cons {kws : List Keyword} {m : MR} {n : MA} (h : PK X kws (tCons (liftR K m) (liftA K n))) : PK X kws (liftA K (aCons m n)) := pkW h w_aCons
end
section
variable {P : Program} {w : World} {K : PySem.W.Frag} {mg : Str → Option Value} {base : Heap}
theorem fun_okD {x qual : Str} {st : Stmt} {f : Addr} {fd : FuncData} {N ps : List Str} {k : Nat} {sp : SpT} {m : MS} {dvs : List V} {kws : List (Str × V)} (F : FunD K x qual (defArgs st) (defBody st) (defScope st) dvs kws f fd) (Sc : FnScope N ps (defScope st)) (len : ∀ ls G, sp ls G → ls.length = ps.length)
    (hd : ∀ (cdv : Value) (A : Around) (outer : List Env) (s : Shared) (H : Hp) (E : XK), Room k (XC P w K mg base N qual st f cdv A outer s H E).A → PSs (XC P w K mg base N qual st f cdv A outer s H E) (defBody st) (liftS K NoX m))
    (hm : ∀ ls G, sp ls G → m (endOf ls G) (start0 N.length ls)) : FnOk P w K mg base CX0 (k + 1) f fd ps (spOf K sp) := by
  refine F.ok Sc (fun vs H Q E h => ?_) (fun cdv A outer s H vs Q E hr h => ⟨liftS K NoX m, (hd cdv A outer s H E hr).nox, body_of hm h⟩)
  obtain ⟨_, F1, ls, A, G, _, hl, _, _, hsp, _⟩ := h
  rw [hl.len, len ls G hsp]
theorem fnok_false (k : Nat) (f : Addr) (fd : FuncData) (ps : List Str) : FnOk P w K mg base CX0 k f fd ps (spOf K fun _ _ => False) :=
  ⟨fun vs H Q E ⟨_, _, _, _, _, _, _, _, _, h, _⟩ => h.elim, fun A outer s H args us vs Q E _ _ _ _ ⟨_, _, _, _, _, _, _, _, _, h, _⟩ => h.elim⟩
theorem fnok_imp {k : Nat} {f : Addr} {fd : FuncData} {ps : List Str} {sp sp' : SpT} (F : FnOk P w K mg base CX0 k f fd ps (spOf K sp)) (h : ∀ ls G, sp' ls G → sp ls G) : FnOk P w K mg base CX0 k f fd ps (spOf K sp') :=
  F.imp fun vs H Q E ⟨a0, F1, ls, A, G, a1, a2, a3, a4, a5, a6⟩ => ⟨a0, F1, ls, A, G, a1, a2, a3, a4, h _ _ a5, a6⟩
abbrev boxL (l : Nat) (xs : List Int) (i j k : Int) : L := .lst [.fz (.at l (.lst (xs.map T.int))), .fz (.int i), .fz (.int j), .fz (.int k)]
def spTake1 : SpT := fun ls G => ∃ (b l : Nat) (xs : List Int) (i j k many : Int), ls = [.pin b (boxL l xs i j k), .fz (.int many)] ∧ 0 ≤ i ∧ 0 ≤ j ∧ (0 ≤ k ∧ k < 2147483563) ∧ (0 < many ∧ many < 2 ^ 100) ∧
  ∀ r i' j' k' : Int, 0 ≤ r → r < many → 0 ≤ i' → 0 ≤ j' → 0 ≤ k' → k' < 2147483563 → G (.fz (.int r)) [.pin b (boxL l xs i' j' k')]
def spTake : SpT := fun ls G => ∃ (b : Nat) (many : Int), ls = [.fz (.box b), .fz (.int many)] ∧ (0 < many ∧ many < 2 ^ 100) ∧ ∀ r : Int, 0 ≤ r → r < many → G (.fz (.int r)) []
def spBox1 : SpT := fun ls G => ∃ xs : List Int, ls = [.fz (.scr xs)] ∧ ∀ (ys : List Int) (k : Int), 0 ≤ k → k < 2147483563 → G (.lst [.lst ((ys.map T.int).map L.fz), .fz (.int 0), .fz (.int 0), .fz (.int k)]) []
def spBox : SpT := fun ls G => ∃ xs : List Int, ls = [.fz (.scr xs)] ∧ ∀ b : Nat, G (.fz (.box b)) []
theorem RTs.int_inv {F : Hp} : ∀ {xs : List Int} {vs : List V}, RTs K F (xs.map T.int) vs → vs = xs.map V.int
  | [], _, h => h
  | x :: xs, _, ⟨v, r, e, h1, h2⟩ => by
    subst e
    cases (show _ = _ from h1)
    rw [RTs.int_inv h2]
    rfl
def lean (o : HO) : Prop := match o with
  | .lst _ => True
  | .ext _ => True
  | _ => False
theorem hok_upd {H : Hp} {h : Heap} {b : Addr} {o u : HO} (x : HOk P w H h) (e : H b = some u) (lu : lean u) (new : ObjOk P w (upd H b o) h b o) : HOk P w (upd H b o) h := fun a q eq => by
  by_cases hb : a = b
  · subst hb
    rw [upd_same] at eq
    cases eq
    exact new
  · rw [upd_ne hb] at eq
    refine (x a q eq).stay (fun _ _ _ z => z) (fun c z => ?_) fun c ys z => ?_
    · rw [upd_ne (fun z2 => by rw [z2, e] at z; cases z; exact lu.elim)]; exact z
    · rw [upd_ne (fun z2 => by rw [z2, e] at z; cases z; exact lu.elim)]; exact z
theorem un_upd {fs ex : List Addr} {H H1 : Hp} {h h' : Heap} {b : Addr} {u u1 o : HO} (x : Un fs ex H1 H h h') {H0 : Hp} (e0 : ∀ a, a ≠ b → H0 a = H1 a) (n0 : H0 b = some u1 ∨ h.get? b = none) (l1 : ∀ z, H0 b = some z → lean z) (e : H b = some u) (lu : lean u) : Un fs ex H0 (upd H b o) h h' := by
  have hne : ∀ a q, h.get? a = some q → H0 a = none → a ≠ b := fun a q g n z => by
    subst z
    rcases n0 with y | y
    · rw [y] at n; cases n
    · rw [y] at g; cases g
  refine ⟨fun a q g n f1 f2 => ?_, fun a q g n f1 f2 => ?_, fun a q g n f2 => ?_, fun a q g f2 => x.there a q g f2, fun a xs g => ?_, fun a o' u' g => ?_, fun a ps g => ?_⟩
  · exact x.keep a q g (by rw [← e0 a (hne a q g n)]; exact n) f1 f2
  · exact x.slot a q g (by rw [← e0 a (hne a q g n)]; exact n) f1 f2
  · rw [upd_ne (hne a q g n)]
    exact x.free a q g (by rw [← e0 a (hne a q g n)]; exact n) f2
  · have nb : a ≠ b := fun z => by rw [z] at g; exact l1 _ g
    rw [upd_ne nb]
    exact x.tups a xs (by rw [← e0 a nb]; exact g)
  · have nb : a ≠ b := fun z => by rw [z] at g; exact l1 _ g
    rw [upd_ne nb]
    exact x.frzs a o' u' (by rw [← e0 a nb]; exact g)
  · have nb : a ≠ b := fun z => by rw [z] at g; exact l1 _ g
    rw [upd_ne nb]
    exact x.tbls a ps (by rw [← e0 a nb]; exact g)
theorem box_ext {H : Hp} {h : Heap} {b l : Addr} {i j k : Int} (x : ObjOk P w H h b (.lst [.ref l, .int i, .int j, .int k])) {H' : Hp} (hi : 0 ≤ i) (hj : 0 ≤ j) (hk : 0 ≤ k) (hk2 : k < 2147483563) : ObjOk P w H' h b (.ext (boxP b l)) := by
  obtain ⟨_, its, n, r, e⟩ := x
  refine ⟨⟨i, j, k, its, n, hi, hj, hk, hk2, r, e⟩, ⟨_, e⟩, fun h1 h2 ⟨i, j, k, its, n, a1, a2, a3, a4, a5, a6⟩ same => ⟨i, j, k, its, n, a1, a2, a3, a4, a5, same _ a6⟩⟩
theorem tabK_upd {H H' : Hp} {b : Addr} {o o' : HO} (t : TabK K H H') (e : H' b = some o) (p : Plain b o) : TabK K H (upd H' b o') := fun z =>
  (tab_off (B := [b]) (fun a ha => by
    have : a = b := by simpa using ha
    subst this; exact ⟨o, e, p⟩) (fun a ha => upd_ne (fun z => ha (by simp [z])))).to (t z)
theorem box_plain (b l : Addr) : Plain b (.ext (boxP b l)) := ⟨(fun _ z => (by cases z)), plain_ext b fun hp o vs h1 h2 ⟨i, j, k, its, n, _, _, _, _, _, e⟩ => by
  rw [h1] at e
  cases e
  cases h2⟩
theorem take_ok {k : Nat} {f : Addr} {fd : FuncData} {ps : List Str} (F0 : FnOk P w K mg base CX0 k f fd ps (spOf K spTake1)) (hps : ps.length = 2) : FnOk P w K mg base CX0 k f fd ps (spOf K spTake) := by
  refine ⟨fun vs H Q E ⟨_, F, ls, A, G, _, hl, _, _, ⟨b, many, e, _⟩, _⟩ => by rw [hl.len, e, hps]; rfl, fun Ar outer s H args us vs Q E hr he hb hv ⟨t0, F, ls, A, G, fh, hl, nd, nf, ⟨b, many, els, hmany, hG⟩, post⟩ => ?_⟩
  subst els
  obtain ⟨vb, r0, B1, B2, e1, e2, ⟨e3, e4, l, xs, hFb, hFl⟩, hl2⟩ := hl
  obtain ⟨vm, e5, _, e6⟩ := hl2.one
  have e7 : vm = .int many := e6
  subst e4 e5 e7 e1
  have hHb : H b = some (.ext (boxP b l)) := fh.g hFb
  obtain ⟨⟨i, j, kk, its, n, hi, hj, hk, hk2, hits, hobj⟩, _⟩ := he.hok b _ hHb
  have lb : l ≠ b := fun z => by rw [z, hFb] at hFl; cases hFl
  let H1 : Hp := upd H b (.lst [.ref l, .int i, .int j, .int kk])
  have e0 : ∀ a, a ≠ b → H a = H1 a := fun a ne => (upd_ne ne).symm
  have hok1 : HOk P w H1 s.heap := hok_upd he.hok hHb trivial ⟨by show 4 ≤ sizeLine; decide, its, n, hits, hobj⟩
  have nb : ∀ a, H a = none → H1 a = none := fun a z => by
    rw [← e0 a (fun y => by rw [y, hHb] at z; cases z)]; exact z
  have he1 : Env0 P w K mg base Ar outer s H1 := ⟨he.frames, he.mod, fun a o g => ⟨(he.bs a o g).1, nb a (he.bs a o g).2⟩, he.bsz, he.funs, fun a ha => nb a (he.frf a ha), hok1, he.bare⟩
  let F1 : Hp := fun a => if a = b then none else F a
  have F1ne : ∀ a, a ≠ b → F1 a = F a := fun a ne => if_neg ne
  have F1b : F1 b = none := if_pos rfl
  let Q1 : VK := fun v H' => ∃ i' j' k' : Int, (0 ≤ i' ∧ 0 ≤ j' ∧ 0 ≤ k' ∧ k' < 2147483563) ∧ H' b = some (.lst [.ref l, .int i', .int j', .int k']) ∧ Q v (upd H' b (.ext (boxP b l)))
  have sp1 : spOf K spTake1 [.ref b, .int many] H1 Q1 E := by
    refine ⟨t0.on (tabK_upd (fun y => y) hHb (box_plain b l)), F1, [.pin b (boxL l xs i j kk), .fz (.int many)], [b], fun r bk => ∃ (rr i' j' k' : Int), r = .fz (.int rr) ∧ bk = [.pin b (boxL l xs i' j' k')] ∧ (0 ≤ rr ∧ rr < many) ∧ (0 ≤ i' ∧ 0 ≤ j' ∧ 0 ≤ k' ∧ k' < 2147483563), ⟨fun {a o} g nt => ?_, fun {a} n => ?_⟩, ?_, by simp, fun a ha => ?_,
      ⟨b, l, xs, i, j, kk, many, rfl, hi, hj, ⟨hk, hk2⟩, hmany, fun r i' j' k' a1 a2 a3 a4 a5 a6 => ⟨r, i', j', k', rfl, rfl, ⟨a1, a2⟩, a3, a4, a5, a6⟩⟩, ?_⟩
    · have ne : a ≠ b := fun z => by rw [z, F1b] at g; cases g
      rw [F1ne a ne] at g
      rw [← e0 a ne]
      exact fh.k g nt
    · have ne : a ≠ b := fun z => n (by rw [z, F1b])
      rw [F1ne a ne] at n
      rw [← e0 a ne]
      exact fh.d n
    · refine ⟨.ref b, [.int many], [b], [], rfl, rfl, ⟨rfl, b, [.ref l, .int i, .int j, .int kk], [], rfl, rfl, upd_same, ?_⟩, .int many, [], [], [], rfl, rfl, ⟨rfl, rfl⟩, rfl, rfl⟩
      exact ⟨.ref l, _, [], [], rfl, rfl, ⟨rfl, rfl, l, _, rfl, by rw [F1ne l lb]; exact hFl, RTs.ints xs⟩, .int i, _, [], [], rfl, rfl, ⟨rfl, rfl⟩, .int j, _, [], [], rfl, rfl, ⟨rfl, rfl⟩, .int kk, _, [], [], rfl, rfl, ⟨rfl, rfl⟩, rfl, rfl⟩
    · have : a = b := by simpa using ha
      subst this
      exact F1b
    · rintro r ls' ⟨rr, i', j', k', er, eb, hrr, hc⟩ v F' H' A' B fh' hb' hr' nd' nf' st
      subst er eb
      obtain ⟨eB, ev⟩ := hr'
      have ev' : v = .int rr := ev
      subst ev'
      obtain ⟨v0, r1, C1, C2, g1, g2, ⟨_, h0⟩, g3⟩ := hb'
      have g1' : [V.ref b] = v0 :: r1 := g1
      cases g1'
      obtain ⟨b', vs4, B4, q1, q2, q3, h4⟩ := h0
      cases q1
      obtain ⟨w0, t0, _, _, x0, _, ⟨_, y0, _⟩, h5⟩ := h4
      obtain ⟨w1, t1, _, _, x1, _, ⟨_, y1⟩, h6⟩ := h5
      obtain ⟨w2, t2, _, _, x2, _, ⟨_, y2⟩, h7⟩ := h6
      obtain ⟨w3, t3, _, _, x3, _, ⟨_, y3⟩, h8⟩ := h7
      have y1' : w1 = .int i' := y1
      have y2' : w2 = .int j' := y2
      have y3' : w3 = .int k' := y3
      obtain ⟨z1, _⟩ := h8
      subst z1 x3 x2 x1 x0 y0 y1' y2' y3'
      refine ⟨i', j', k', hc, q3, post (.fz (.int rr)) [] (hG rr hrr.1 hrr.2) (.int rr) (upd F' b (.ext (boxP b l))) (upd H' b (.ext (boxP b l))) [] [] (same_upd fh') ⟨rfl, rfl⟩ ⟨rfl, rfl⟩ (by simp) (fun _ z => by cases z) ⟨⟨fun {a o} g nt => ?_, fun {a} n => ?_⟩, fun {a o} g nt _ => ?_, ?_, fun a n => ?_, fun _ z => (by cases z), fun a n => ?_⟩⟩
      · by_cases hab : a = b
        · subst hab; rw [hFb] at g; rw [upd_same]; exact g
        · rw [upd_ne hab]; exact st.ff.k (by rw [F1ne a hab]; exact g) nt
      · by_cases hab : a = b
        · subst hab; rw [upd_same]; simp
        · rw [upd_ne hab]; exact st.ff.d (by rw [F1ne a hab]; exact n)
      · by_cases hab : a = b
        · subst hab; rw [hHb] at g; rw [upd_same]; exact g
        · rw [upd_ne hab]; exact st.ch (by rw [← e0 a hab]; exact g) nt (by simpa using hab)
      · exact tabK_upd (fun z => st.tb (tabK_upd (fun y => y) hHb (box_plain b l) z)) q3 (plain_lst b _)
      · by_cases hab : a = b
        · subst hab; rw [upd_same]; simp
        · rw [upd_ne hab]; exact st.dom a (by rw [← e0 a hab]; exact n)
      · by_cases hab : a = b
        · subst hab; exact .inl (by rw [hFb]; simp)
        · rw [upd_ne hab] at n
          rcases st.nF a n with z | z | z
          · exact .inl (by rw [F1ne a hab] at z; exact z)
          · exact (hab (by simpa using z)).elim
          · exact .inr (.inr (by rw [e0 a hab]; exact z))
  refine codeAny_mono (F0.run Ar outer s H1 args us _ Q1 E hr he1 hb hv sp1) fun r s' hq => ?_
  cases r with
  | error e => exact hq
  | ok fl =>
    cases fl with
    | ret u =>
      obtain ⟨v, H', c1, c2, c3, c4, c5, i', j', k', hc, c6, c7⟩ := hq
      exact ⟨v, upd H' b (.ext (boxP b l)), c1, c2, un_upd c3 e0 (.inl hHb) (fun z hz => by rw [hHb] at hz; cases hz; trivial) c6 trivial, hok_upd c4 c6 trivial (box_ext (c4 b _ c6) hc.1 hc.2.1 hc.2.2.1 hc.2.2.2), c5, c7⟩
    | next => exact hq
    | brk => exact hq
    | cont => exact hq
end
end HTr
namespace HTr
open PySem L2
section
variable {P : Program} {w : World} {K : PySem.W.Frag} {mg : Str → Option Value} {base : Heap}
theorem RTs.fz_ints {F H : Hp} {ys : List Int} {vs : List V} {A : List Addr} (h : RLs K F H ((ys.map T.int).map L.fz) vs A) : A = [] ∧ vs = ys.map V.int := by
  obtain ⟨e, h⟩ := h.fz_inv
  exact ⟨e, RTs.int_inv h⟩
theorem box_ok {k : Nat} {f : Addr} {fd : FuncData} {ps : List Str} (F0 : FnOk P w K mg base CX0 k f fd ps (spOf K spBox1)) : FnOk P w K mg base CX0 k f fd ps (spOf K spBox) := by
  have back : ∀ vs H Q E, spOf K spBox vs H Q E → spOf K spBox1 vs H (fun v H' => ∃ (b l : Addr) (kk : Int), v = .ref b ∧ (0 ≤ kk ∧ kk < 2147483563) ∧ H b = none ∧ H' b = some (.lst [.ref l, .int 0, .int 0, .int kk]) ∧ Q v (upd H' b (.ext (boxP b l)))) E := by
    rintro vs H Q E ⟨t0, F, ls, A, G, fh, hl, nd, nf, ⟨xs, els, hG⟩, post⟩
    subst els
    have eA : A = [] := by
      obtain ⟨v, e, h⟩ := hl.one
      obtain ⟨_, _, B, C, _, e2, ⟨e3, _⟩, e4⟩ := hl
      rw [e2, e3, e4.2]; rfl
    subst eA
    refine ⟨t0, F, _, [], fun r bk => bk = [] ∧ ∃ (ys : List Int) (kk : Int), (0 ≤ kk ∧ kk < 2147483563) ∧ r = .lst [.lst ((ys.map T.int).map L.fz), .fz (.int 0), .fz (.int 0), .fz (.int kk)], fh, hl, nd, nf, ⟨xs, rfl, fun ys kk a1 a2 => ⟨rfl, ys, kk, ⟨a1, a2⟩, rfl⟩⟩, ?_⟩
    rintro r ls' ⟨eb, ys, kk, hk, er⟩ v F' H' A' B fh' hb' hr nd' nf' st
    subst eb er
    obtain ⟨b, us, B1, ev, eB, hb, h0⟩ := hr
    obtain ⟨v0, r0, C0, C1, x0, y0, ⟨l, us0, B0, z0, z1, hl0, z2⟩, h1⟩ := h0
    obtain ⟨v1, r1, D1, E1, x1, y1, ⟨g1, k1⟩, h2⟩ := h1
    obtain ⟨v2, r2, D2, E2, x2, y2, ⟨g2, k2⟩, h3⟩ := h2
    obtain ⟨v3, r3, D3, E3, x3, y3, ⟨g3, k3⟩, h4⟩ := h3
    obtain ⟨e5, e6⟩ := h4
    obtain ⟨q1, q2⟩ := RTs.fz_ints z2
    have k1' : v1 = .int 0 := k1
    have k2' : v2 = .int 0 := k2
    have k3' : v3 = .int kk := k3
    subst q1 z1 z0 e5 e6 g3 g2 g1 k1' k2' k3' x3 x2 x1 x0 y3 y2 y1 y0 eB ev
    have inAB : ∀ a, a = b ∨ a = l → a ∈ A' ++ b :: ([l] ++ ([] ++ ([] ++ ([] ++ [])))) := fun a z => by rcases z with z | z <;> simp [z]
    have nb : ∀ a, a = b ∨ a = l → H a = none := fun a z => (st.nA a (inAB a z)).elim (fun y => by cases y) id
    have nF : ∀ a, a = b ∨ a = l → F' a = none := fun a z => nf' a (inAB a z)
    have ne : l ≠ b := fun e => by
      have z := (List.nodup_append.mp nd').2.1
      simp [e] at z
    have hA : A' = [] := by
      obtain ⟨_, e⟩ := (hb' : RLs K F' H' [] _ A')
      exact e
    subst hA
    refine ⟨b, l, kk, rfl, hk, nb b (.inl rfl), hb, ?_⟩
    let F2 : Hp := upd (upd F' l (.lst us0)) b (.ext (boxP b l))
    have F2b : F2 b = some (.ext (boxP b l)) := upd_same
    have F2l : F2 l = some (.lst us0) := by show upd _ _ _ _ = _; rw [upd_ne ne, upd_same]
    have F2o : ∀ a, a ≠ b → a ≠ l → F2 a = F' a := fun a h1 h2 => by show upd _ _ _ _ = _; rw [upd_ne h1, upd_ne h2]
    have H2b : upd H' b (.ext (boxP b l)) b = some (.ext (boxP b l)) := upd_same
    refine post (.fz (.box b)) [] (hG b) (.ref b) F2 (upd H' b (.ext (boxP b l))) [] [] ⟨fun {a o} g nt => ?_, fun {a} n => ?_⟩ ⟨rfl, rfl⟩ ⟨rfl, rfl, l, ys, F2b, by rw [F2l, q2]⟩ (by simp) (fun _ z => (by cases z)) ⟨⟨fun {a o} g nt => ?_, fun {a} n => ?_⟩, fun {a o} g nt _ => ?_, tabK_upd st.tb hb (plain_lst b _), fun a n => ?_, fun _ z => (by cases z), fun a n => ?_⟩
    · by_cases h1 : a = b
      · subst h1; rw [F2b] at g; rw [H2b]; exact g
      · rw [upd_ne h1]
        by_cases h2 : a = l
        · subst h2; rw [F2l] at g; rw [hl0]; exact g
        · rw [F2o a h1 h2] at g; exact fh'.k g nt
    · by_cases h1 : a = b
      · subst h1; rw [H2b]; simp
      · rw [upd_ne h1]
        by_cases h2 : a = l
        · subst h2; rw [hl0]; simp
        · rw [F2o a h1 h2] at n; exact fh'.d n
    · have h1 : a ≠ b := fun z => by
        have y := st.ff.k g nt
        rw [z, nF b (.inl rfl)] at y; cases y
      have h2 : a ≠ l := fun z => by
        have y := st.ff.k g nt
        rw [z, nF l (.inr rfl)] at y; cases y
      rw [F2o a h1 h2]
      exact st.ff.k g nt
    · have h1 : a ≠ b := fun z => by
        have y := st.ff.d n
        rw [z, nF b (.inl rfl)] at y; exact y rfl
      have h2 : a ≠ l := fun z => by
        have y := st.ff.d n
        rw [z, nF l (.inr rfl)] at y; exact y rfl
      rw [F2o a h1 h2]
      exact st.ff.d n
    · have h1 : a ≠ b := fun z => by rw [z, nb b (.inl rfl)] at g; cases g
      rw [upd_ne h1]
      exact st.ch g nt (by simp)
    · have h1 : a ≠ b := fun z => by rw [z] at n; exact n (nb b (.inl rfl))
      rw [upd_ne h1]
      exact st.dom a n
    · by_cases h1 : a = b
      · exact .inr (.inr (by rw [h1]; exact nb b (.inl rfl)))
      · by_cases h2 : a = l
        · exact .inr (.inr (by rw [h2]; exact nb l (.inr rfl)))
        · rw [F2o a h1 h2] at n
          exact st.nF a n
  refine ⟨fun vs H Q E h => F0.len vs H _ E (back vs H Q E h), fun Ar outer s H args us vs Q E hr he hb hv hs => ?_⟩
  refine codeAny_mono (F0.run Ar outer s H args us vs _ E hr he hb hv (back vs H Q E hs)) fun r s' hq => ?_
  cases r with
  | error e => exact hq
  | ok fl =>
    cases fl with
    | ret u =>
      obtain ⟨v, H', c1, c2, c3, c4, c5, b, l, kk, ev, hk, nb, c6, c7⟩ := hq
      have n0 : H b = none := nb
      have hb0 : s.heap.get? b = none := by
        cases z : s.heap.get? b with
        | none => rfl
        | some o =>
          have y := c3.free b o z n0 (by simp)
          rw [y] at c6; cases c6
      exact ⟨v, upd H' b (.ext (boxP b l)), c1, c2, un_upd (u1 := .lst []) c3 (fun a _ => rfl) (.inr hb0) (fun z hz => by rw [n0] at hz; cases hz) c6 trivial, hok_upd c4 c6 trivial (box_ext (c4 b _ c6) (Int.le_refl _) (Int.le_refl _) hk.1 hk.2), c5, c7⟩
    | next => exact hq
    | brk => exact hq
    | cont => exact hq
end
end HTr
namespace HTr
open PySem L2
structure Md (K : PySem.W.Frag) (x qual : Str) (st : Stmt) (ps : List Str) (f : Addr) (fd : FuncData) : Prop where
  fn : FunD K x qual (defArgs st) (defBody st) (defScope st) [] [] f fd
  bd : Binds K fd ps []
theorem lr_neg {X : Cx} {K : PySem.W.Frag} {e : Expr} {n m : Int} (h : PE X e (tUn (rU fun i => .int (-i)) (tC (.int n)))) (hm : m = -n := by rfl) : PE X e (liftR K (rC (.int m))) := peW h fun σ H Q ⟨F, S, A, G, k, q, w⟩ =>
  ⟨n, rfl, w _ _ q _ F H [] (RP.refl k.fh) ⟨rfl, by rw [hm]; rfl⟩ own_nil⟩
end HTr
namespace HTr
open PySem L2
theorem ixN_nat (n k : Nat) : ixN n (k : Int) = if k < n then some k else none := by
  unfold ixN
  split <;> split <;> simp_all <;> omega
theorem ixN_lit (n k : Nat) : ixN n (no_index (OfNat.ofNat k : Int)) = if k < n then some k else none := ixN_nat n k
theorem atI_nat2 {α : Type} (xs : List α) (k : Nat) : atI xs (k : Int) = xs[k]? := by
  unfold atI
  rw [ixN_nat]
  split
  · rfl
  · rename_i h; simp; omega
theorem atI_lit {α : Type} (xs : List α) (k : Nat) : atI xs (no_index (OfNat.ofNat k : Int)) = xs[k]? := atI_nat2 xs k
theorem atI_of {α : Type} (xs : List α) (i : Int) (h : 0 ≤ i) : atI xs i = xs[i.toNat]? := by
  obtain ⟨k, rfl⟩ := Int.eq_ofNat_of_zero_le h
  rw [atI_nat2]; rfl
end HTr
namespace HTr
open PySem L2
@[simp] theorem all_fz (ts : List T) : (ts.map L.fz).all L.isFz = true := by
  rw [List.all_map]
  exact List.all_eq_true.mpr fun _ _ => rfl
theorem itemsF_fz (ts : List T) : itemsF (.lst (ts.map L.fz)) = some ts := by
  show (if (ts.map L.fz).all L.isFz = true then some (L.trees (ts.map L.fz)) else none) = some ts
  rw [if_pos (all_fz ts), L.trees_fz]
theorem cut_map {α β : Type} (f : α → β) (xs : List α) (lo hi : Option Int) : cut (xs.map f) lo hi = (cut xs lo hi).map f := by
  unfold cut
  rw [List.length_map, List.map_take, List.map_drop]
theorem cut_to {α : Type} (xs : List α) (n : Nat) : cut xs none (some (no_index (OfNat.ofNat n : Int))) = xs.take n := by
  unfold cut
  rw [HT.sIx_none, List.drop_zero, Nat.sub_zero]
  show xs.take (HT.sIx xs.length xs.length (some (n : Int))) = _
  rw [HT.sIx_nat, List.take_eq_take_iff]
  omega
theorem frz_map (ts : List T) : frz (ts.map L.fz) = ts.map L.fz := frz_fz ts
theorem frz_cons (t : T) (ls : List L) : frz (.fz t :: ls) = .fz t :: frz ls := rfl
theorem frz_nil : frz [] = [] := rfl
end HTr
namespace HTr
open PySem L2
theorem seq_gen {m n : MS} {e : ET} {S : S} (h : ∀ k : HTr.S → Prop, (∀ S', n e S' → k S') → m { e with nx := k } S) : sSeq m n e S := h (n e) fun _ h => h
theorem trees_fzc {α : Type} (f : α → T) (xs : List α) : L.trees (xs.map (L.fz ∘ f)) = xs.map f := by rw [← List.map_map]; exact L.trees_fz _
theorem itemsF_fzc {α : Type} (f : α → T) (xs : List α) : itemsF (.lst (xs.map (L.fz ∘ f))) = some (xs.map f) := by rw [← List.map_map]; exact itemsF_fz _
theorem itemsF_lst (ts : List T) : itemsF (.fz (.lst ts)) = some ts := rfl
theorem itemsF_tup (ts : List T) : itemsF (.fz (.tup ts)) = none := rfl
theorem itemsF_str (z : Str) : itemsF (.fz (.str z)) = none := rfl
theorem itemsF_scr (z : List Int) : itemsF (.fz (.scr z)) = none := rfl
theorem itemsFT_tup (ts : List T) : itemsFT (.fz (.tup ts)) = some ts := rfl
theorem itemsFT_lst (ts : List T) : itemsFT (.fz (.lst ts)) = none := rfl
theorem itemsFT_str (z : Str) : itemsFT (.fz (.str z)) = none := rfl
theorem itemsFT_scr (z : List Int) : itemsFT (.fz (.scr z)) = none := rfl
end HTr
namespace HTr
section
theorem strip_pin (a : Nat) (l : L) : L.strip (.pin a l) = l := rfl
theorem strip_at (a : Nat) (t : T) : L.strip (.fz (.at a t)) = .fz t := rfl
theorem strip_non : L.strip (.fz .non) = .fz .non := rfl
theorem strip_bl (b : Bool) : L.strip (.fz (.bl b)) = .fz (.bl b) := rfl
theorem strip_int (i : Int) : L.strip (.fz (.int i)) = .fz (.int i) := rfl
theorem strip_str (x : PySem.Str) : L.strip (.fz (.str x)) = .fz (.str x) := rfl
theorem strip_ftup (ts : List T) : L.strip (.fz (.tup ts)) = .fz (.tup ts) := rfl
theorem strip_flst (ts : List T) : L.strip (.fz (.lst ts)) = .fz (.lst ts) := rfl
theorem strip_fdct (b : Bool) (ks vs : List T) : L.strip (.fz (.dct b ks vs)) = .fz (.dct b ks vs) := rfl
theorem strip_fobj (C : Nat) (ns : List PySem.Str) (vs : List T) : L.strip (.fz (.obj C ns vs)) = .fz (.obj C ns vs) := rfl
theorem strip_box (b : Nat) : L.strip (.fz (.box b)) = .fz (.box b) := rfl
theorem strip_scr (xs : List Int) : L.strip (.fz (.scr xs)) = .fz (.scr xs) := rfl
theorem strip_tup (ls : List L) : L.strip (.tup ls) = .tup ls := rfl
theorem strip_lst (ls : List L) : L.strip (.lst ls) = .lst ls := rfl
theorem strip_dct (b : Bool) (ks : List T) (ls : List L) : L.strip (.dct b ks ls) = .dct b ks ls := rfl
theorem strip_obj (C : Nat) (ns : List PySem.Str) (ls : List L) : L.strip (.obj C ns ls) = .obj C ns ls := rfl
end
end HTr
namespace HTr
open PySem L2
theorem ofStr_inj (a b : String) : (Str.ofString a = Str.ofString b) = (a = b) := by
  apply propext
  refine ⟨fun h => ?_, fun h => by rw [h]⟩
  rw [Str.ofString_eq_toList, Str.ofString_eq_toList] at h
  have h2 : (a.toList.map Char.toNat) = (b.toList.map Char.toNat) := by
    have := congrArg Str.cps h
    simpa using this
  have h3 : a.toList = b.toList := map_inj (fun x y e => Char.ext (UInt32.toNat_inj.mp e)) h2
  exact String.toList_inj.mp h3
def kd : Key → PyData
  | .inl i => .int i
  | .inr x => .str x
abbrev kdT (kk : List Key) : PyData := .tuple (kk.map kd)
theorem data_key (kk : List Key) : (tkey kk).data = some (kdT kk) := by
  have : ∀ kk : List Key, T.datas (kk.map keyT) = some (kk.map kd) := by
    intro kk
    induction kk with
    | nil => rfl
    | cons k kk ih => cases k <;> simp [T.datas, keyT, T.data, ih, kd]
  simp [T.data, this]
theorem datas_key (kks : List (List Key)) : T.datas (kks.map tkey) = some (kks.map kdT) := by
  induction kks with
  | nil => rfl
  | cons k kks ih => simp [T.datas, data_key, ih]
theorem eqvAll_kd : ∀ a b : List Key, PyData.eqvAll (a.map kd) (b.map kd) = decide (a = b)
  | [], [] => rfl
  | [], _ :: _ => rfl
  | _ :: _, [] => rfl
  | x :: a, y :: b => by
    simp only [List.map_cons, PyData.eqvAll, eqvAll_kd a b]
    cases x <;> cases y <;> simp [kd, PyData.eqv, Bool.decide_and] <;> rfl
theorem eqv_kdT (a b : List Key) : PyData.eqv (kdT a) (kdT b) = decide (a = b) := by
  show PyData.eqvAll _ _ = _
  exact eqvAll_kd a b
theorem eqvAll_kdT : ∀ a b : List (List Key), PyData.eqvAll (a.map kdT) (b.map kdT) = decide (a = b)
  | [], [] => rfl
  | [], _ :: _ => rfl
  | _ :: _, [] => rfl
  | x :: a, y :: b => by
    simp only [List.map_cons, PyData.eqvAll, eqvAll_kdT a b, eqv_kdT]
    simp [Bool.decide_and]
def kOk (k : Key) : Bool := match k with
  | .inl _ => true
  | .inr x => x.cps.all (· < 0x110000)
theorem can_kd : ∀ {kk : List Key}, kk.all kOk = true → PyData.canLayAll0 (kk.map kd) = true
  | [], _ => rfl
  | k :: kk, h => by
    rw [List.all_cons, Bool.and_eq_true] at h
    simp only [List.map_cons, PyData.canLayAll0, can_kd h.2, Bool.and_true]
    cases k with
    | inl i => rfl
    | inr x => exact h.1
theorem depth_kd : ∀ kk : List Key, PyData.depthAll (kk.map kd) = 0
  | [] => rfl
  | k :: kk => by
    simp only [List.map_cons, PyData.depthAll, depth_kd kk]
    cases k <;> rfl
theorem shaped_kdT {kk : List Key} (h : kk.all kOk = true) : SeqAt.shaped (kdT kk) = true := by
  unfold SeqAt.shaped
  rw [Bool.and_eq_true]
  refine ⟨can_kd h, decide_eq_true ?_⟩
  show PyData.depthAll (kk.map kd) + 1 ≤ 64
  rw [depth_kd]
  decide
theorem can_kdT : ∀ {kks : List (List Key)}, (∀ kk ∈ kks, kk.all kOk = true) → PyData.canLayAll0 (kks.map kdT) = true
  | [], _ => rfl
  | k :: kks, h => by
    simp only [List.map_cons, PyData.canLayAll0, can_kdT fun q hq => h q (List.mem_cons_of_mem _ hq), Bool.and_true]
    exact can_kd (h k List.mem_cons_self)
theorem depth_kdT : ∀ kks : List (List Key), PyData.depthAll (kks.map kdT) ≤ 1
  | [] => by decide
  | k :: kks => by
    simp only [List.map_cons, PyData.depthAll]
    have := depth_kdT kks
    have h2 : PyData.depth (kdT k) = 1 := by show PyData.depthAll (k.map kd) + 1 = 1; rw [depth_kd]
    omega
theorem shaped_list {kks : List (List Key)} (h : ∀ kk ∈ kks, kk.all kOk = true) : SeqAt.shaped (.list (kks.map kdT)) = true := by
  unfold SeqAt.shaped
  rw [Bool.and_eq_true]
  refine ⟨can_kdT h, decide_eq_true ?_⟩
  show PyData.depthAll (kks.map kdT) + 1 ≤ 64
  have := depth_kdT kks
  omega
end HTr
namespace HTr
open PySem L2 PyProof.Rows PyProof.Rows.G
theorem clt_total {a b : List CK} (h1 : clt a b = false) (h2 : clt b a = false) : a = b := (listOrd itemOrd).total a b h1 h2
theorem ckey_inj {a b : Key} (h : ckey a = ckey b) : a = b := by
  cases a with
  | inl i => cases b with
    | inl j => simp [ckey] at h; rw [h]
    | inr y => simp [ckey] at h
  | inr x => cases b with
    | inl j => simp [ckey] at h
    | inr y =>
      simp [ckey] at h
      obtain ⟨x⟩ := x
      obtain ⟨y⟩ := y
      have : x = y := by simpa using h
      rw [this]
theorem ckeys_inj {a b : List Key} (h : a.map ckey = b.map ckey) : a = b := map_inj (fun _ _ => ckey_inj) h
def kle (a b : List Key) : Prop := clt (b.map ckey) (a.map ckey) = false
theorem kle_anti {a b : List Key} (h1 : kle a b) (h2 : kle b a) : a = b := ckeys_inj (clt_total h2 h1)
theorem srt_uniq : ∀ {us vs : List (List Key)}, us.Nodup → vs.Nodup → kOrd us → kOrd vs → (∀ k, k ∈ us ↔ k ∈ vs) → us = vs
  | [], [], _, _, _, _, _ => rfl
  | [], v :: vs, _, _, _, _, h => by have := (h v).mpr (by simp); simp at this
  | u :: us, [], _, _, _, _, h => by have := (h u).mp (by simp); simp at this
  | u :: us, v :: vs, n1, n2, o1, o2, h => by
    obtain ⟨a1, a2⟩ := List.pairwise_cons.mp (show (u :: us).Pairwise kle from o1)
    obtain ⟨b1, b2⟩ := List.pairwise_cons.mp (show (v :: vs).Pairwise kle from o2)
    obtain ⟨c1, c2⟩ := List.nodup_cons.mp n1
    obtain ⟨d1, d2⟩ := List.nodup_cons.mp n2
    have e : u = v := by
      rcases List.mem_cons.mp ((h u).mp (by simp)) with z | z
      · exact z
      · rcases List.mem_cons.mp ((h v).mpr (by simp)) with y | y
        · exact y.symm
        · exact kle_anti (a1 v y) (b1 u z)
    subst e
    congr 1
    refine srt_uniq c2 d2 a2 b2 fun k => ⟨fun z => ?_, fun z => ?_⟩
    · rcases List.mem_cons.mp ((h k).mp (List.mem_cons_of_mem _ z)) with y | y
      · rw [y] at z; exact (c1 z).elim
      · exact y
    · rcases List.mem_cons.mp ((h k).mpr (List.mem_cons_of_mem _ z)) with y | y
      · rw [y] at z; exact (d1 z).elim
      · exact y
theorem data_list (kks : List (List Key)) : T.data (.lst (kks.map tkey)) = some (.list (kks.map kdT)) := by
  show (T.datas (kks.map tkey)).map PyData.list = _
  rw [datas_key]; rfl
theorem atI_glast {α : Type} (xs : List α) : atI xs (-1) = xs.getLast? := by
  unfold atI ixN
  cases xs with
  | nil => rfl
  | cons x xs =>
    rw [if_neg (by decide), if_pos (by simp; omega)]
    show (x :: xs)[_]? = _
    rw [List.getLast?_eq_getElem?]
    congr 1
    omega
def addU (acc : List (List Key)) (x : List Key) : List (List Key) := if acc.getLast? = some x then acc else acc ++ [x]
theorem getLast_mem {α : Type} {xs : List α} {x : α} (h : xs.getLast? = some x) : x ∈ xs := List.mem_of_getLast? h
structure Unl (acc pre : List (List Key)) : Prop where
  nd : acc.Nodup
  mem : ∀ k, k ∈ acc ↔ k ∈ pre
  ord : kOrd acc
theorem Unl.step {acc pre : List (List Key)} {x : List Key} (u : Unl acc pre) (h : ∀ k ∈ pre, kle k x) : Unl (addU acc x) (pre ++ [x]) := by
  unfold addU
  split
  · rename_i e
    have hx := getLast_mem e
    refine ⟨u.nd, fun k => ?_, u.ord⟩
    rw [u.mem, List.mem_append]
    refine ⟨.inl, fun z => z.elim id fun z => ?_⟩
    have : k = x := by simpa using z
    rw [this]; exact (u.mem x).mp hx
  · rename_i e
    have nx : x ∉ acc := fun hx => e (by
      rcases List.eq_nil_or_concat acc with z | ⟨l, y, z⟩
      · rw [z] at hx; simp at hx
      · rw [List.concat_eq_append] at z
        rw [z, List.getLast?_concat]
        rw [z] at hx
        rcases List.mem_append.mp hx with m | m
        · have o : (l ++ [y]).Pairwise kle := by have := u.ord; rw [z] at this; exact this
          have h1 : kle x y := (List.pairwise_append.mp o).2.2 x m y (by simp)
          have h2 : kle y x := h y ((u.mem y).mp (by rw [z]; simp))
          rw [kle_anti h1 h2]
        · have : x = y := by simpa using m
          rw [this])
    refine ⟨?_, fun k => ?_, ?_⟩
    · refine List.nodup_append.mpr ⟨u.nd, by simp, fun a ha b hb e2 => ?_⟩
      have : b = x := by simpa using hb
      subst this
      subst e2
      exact nx ha
    · rw [List.mem_append, List.mem_append, u.mem]
    · show (acc ++ [x]).Pairwise kle
      refine List.pairwise_append.mpr ⟨u.ord, by simp, fun a ha b hb => ?_⟩
      have : b = x := by simpa using hb
      subst this
      exact h a ((u.mem a).mp ha)
end HTr
namespace HTr
open PySem L2
theorem data_nil : T.data (.lst []) = some (.list []) := rfl
theorem eqv_nil (a : List (List Key)) : PyData.eqv (.list (a.map kdT)) (.list []) = decide (a = []) := eqvAll_kdT a []
end HTr
namespace HTr
open PySem L2 RZ
section
variable {X : Cx} {K : PySem.W.Frag} {ws vs : List Nat}
theorem zipT_walk {F1 H1 : Hp} {a b : Addr} {xs ys : List V} {ts us : List T} (ha : SqT K H1 a xs) (hb : SqT K H1 b ys) (hv : RTs K F1 ts xs) (hw : RTs K F1 us ys) :
    (∀ i H, Same H1 H → i < (zipT ts us).length → (ItzT K a b).go i H) ∧ (∀ i H, Same H1 H → (zipT ts us).length = i → (ItzT K a b).stop i H) ∧
    ∀ i F H x H', Same F1 F → Same H1 H → Same F H → i < (zipT ts us).length → (ItzT K a b).yld i H x H' → ∃ F' t, RP K F H F' H' ∧ (zipT ts us)[i]? = some t ∧ RT K F' t x := by
  have hlen := zipT_len ts us
  refine ⟨fun i H s hi => ?_, fun i H s hi => ⟨xs, ys, seqT_same s ha, seqT_same s hb, by rw [hv.len, hw.len]; omega⟩, fun i F H x H' s1 s2 s3 hi y => ?_⟩
  · rw [hlen] at hi
    obtain ⟨x, hx⟩ : ∃ x, ts[i]? = some x := ⟨ts[i]'(by omega), by simp⟩
    obtain ⟨y, hy⟩ : ∃ x, us[i]? = some x := ⟨us[i]'(by omega), by simp⟩
    obtain ⟨u, hu, _⟩ := hv.get hx
    obtain ⟨u', hu', _⟩ := hw.get hy
    exact ⟨xs, ys, u, u', seqT_same s ha, seqT_same s hb, hu, hu'⟩
  · rw [hlen] at hi
    obtain ⟨x', hx⟩ : ∃ x, ts[i]? = some x := ⟨ts[i]'(by omega), by simp⟩
    obtain ⟨y', hy⟩ : ∃ x, us[i]? = some x := ⟨us[i]'(by omega), by simp⟩
    obtain ⟨u, hu, hr⟩ := hv.get hx
    obtain ⟨u', hu', hr'⟩ := hw.get hy
    obtain ⟨t, w, w', e1, hT, e2, y1, y2⟩ := y
    have z := y1 xs (seqT_same s2 ha)
    have z' := y2 ys (seqT_same s2 hb)
    rw [hu] at z
    rw [hu'] at z'
    cases z
    cases z'
    subst e1 e2
    obtain ⟨r1, r2⟩ := RP.tup (K := K) (ts := [x', y']) s3 hT ⟨u, [u'], rfl, hr.mono s1, u', [], rfl, hr'.mono s1, rfl⟩
    refine ⟨_, _, r1, ?_, r2⟩
    have hz : (ts.zip us)[i]? = some (x', y') := List.getElem?_zip_eq_some.mpr ⟨hx, hy⟩
    simp [zipT, hz]
def rCompZA (it : MA) (g : MG) (c : MT) (m : MR) (vs : List Nat) : MR := fun S Q => it S fun ls _ => match ls with
  | [l, l'] => match itemsF l, itemsF l' with
    | some ts, some us => compL g c m (zipT ts us) (wipeS S vs) [] fun ls => Q (.lst ls) true
    | _, _ => match itemsFT l, itemsFT l' with
      | some ts, some us => compL g c m (zipT ts us) (wipeS S vs) [] fun ls => Q (.lst ls) true
      | _, _ => False
  | _ => False
theorem w_compZA {it : MA} {m : MR} {g : MG} {c : MT} (hw : ∀ j, j ∈ ws → j ∈ vs) : ∀ σ H Q, liftR K (rCompZA it g c m vs) σ H Q → tLc (iZipA K (liftA K it)) (liftG K ws g) (liftT K c) (liftR K m) vs σ H Q := fun σ H Q ⟨F, S, A, G, k, q, w⟩ =>
  ⟨F, S, A, _, k, q, fun ls o gq us F1 H1 B r1 h1 _ => by
    split at gq
    · rename_i l l'
      obtain ⟨v, v', A1, C1, ev, h2, h3⟩ := h1.two
      subst ev
      split at gq
      · rename_i ts us et eu
        obtain ⟨a, xs, ev, ha, hv⟩ := itemsF_ok h2 r1.fh et
        obtain ⟨b, ys, ev', hb, hv'⟩ := itemsF_ok h3 r1.fh eu
        subst ev ev'
        obtain ⟨w1, w2, w3⟩ := zipL_walk ha hb hv hv'
        exact ⟨a, b, xs, ys, rfl, .inl ⟨.inl (.inl ha), .inl (.inl hb), fun D hD => comp_core hw w w1 w2 w3 (k.rp r1) r1 hD gq⟩⟩
      · split at gq
        · rename_i ts us et eu
          obtain ⟨a, xs, ev, ha, hv⟩ := itemsFT_ok h2 r1.fh et
          obtain ⟨b, ys, ev', hb, hv'⟩ := itemsFT_ok h3 r1.fh eu
          subst ev ev'
          obtain ⟨w1, w2, w3⟩ := zipT_walk ha hb hv hv'
          exact ⟨a, b, xs, ys, rfl, .inr ⟨ha, hb, fun D hD => comp_core hw w w1 w2 w3 (k.rp r1) r1 hD gq⟩⟩
        · exact gq.elim
    · exact gq.elim⟩
theorem lr_compZA {e : Expr} {it : MA} {m : MR} {g : MG} {c : MT} (hw : ∀ j, j ∈ ws → j ∈ vs) (h : PE X e (tLc (iZipA K (liftA K it)) (liftG K ws g) (liftT K c) (liftR K m) vs)) : PE X e (liftR K (rCompZA it g c m vs)) := peW h (w_compZA hw)
end
end HTr
namespace HTr
open PySem L2
mutual
def T.thin : T → Bool
  | .non | .bl _ | .int _ | .str _ => true
  | .tup ts => T.thins ts
  | _ => false
def T.thins : List T → Bool
  | [] => true
  | t :: ts => t.thin && T.thins ts
end
mutual
def L.thin : L → Bool
  | .fz t => t.thin
  | .tup ls | .lst ls | .dct _ _ ls | .obj _ _ ls => L.thins ls
  | .pin _ l => l.thin
def L.thins : List L → Bool
  | [] => true
  | l :: ls => l.thin && L.thins ls
end
def NoLst (F F2 : Hp) : Prop := ∀ a o, F a = some o → (∀ xs, o ≠ .lst xs) → F2 a = some o
section
variable {K : PySem.W.Frag} {F F2 H : Hp}
mutual
theorem RT.thin (hn : NoLst F F2) : ∀ {t : T} {v : V}, t.thin = true → RT K F t v → RT K F2 t v
  | .non, _, _, h => h
  | .bl _, _, _, h => h
  | .int _, _, _, h => h
  | .str _, _, _, h => h
  | .tup ts, _, e, ⟨a, vs, ev, q, r⟩ => by
    refine ⟨a, vs, ev, ?_, RTs.thin hn e r⟩
    rcases q with (q | ⟨o, q⟩) | q
    · exact .inl (.inl (hn _ _ q fun xs z => by cases z))
    · exact .inl (.inr ⟨o, hn _ _ q fun xs z => by cases z⟩)
    · exact .inr q
  | .lst _, _, e, _ => by cases e
  | .dct _ _ _, _, e, _ => by cases e
  | .obj _ _ _, _, e, _ => by cases e
  | .box _, _, e, _ => by cases e
  | .scr _, _, e, _ => by cases e
  | .dd _ _, _, e, _ => by cases e
  | .at _ _, _, e, _ => by cases e
theorem RTs.thin (hn : NoLst F F2) : ∀ {ts : List T} {vs : List V}, T.thins ts = true → RTs K F ts vs → RTs K F2 ts vs
  | [], _, _, h => h
  | t :: ts, _, e, ⟨v, r, e1, h1, h2⟩ => by
    have e' : (t.thin && T.thins ts) = true := e
    rw [Bool.and_eq_true] at e'
    exact ⟨v, r, e1, RT.thin hn e'.1 h1, RTs.thin hn e'.2 h2⟩
end
mutual
theorem RL.thin (hn : NoLst F F2) : ∀ {l : L} {v : V} {A : List Addr}, l.thin = true → RL K F H l v A → RL K F2 H l v A
  | .fz t, _, _, f, ⟨e, h⟩ => ⟨e, RT.thin hn f h⟩
  | .tup ls, _, _, f, ⟨a, vs, B, e, eA, q, r⟩ => ⟨a, vs, B, e, eA, q, RLs.thin hn f r⟩
  | .lst ls, _, _, f, ⟨a, vs, B, e, eA, q, r⟩ => ⟨a, vs, B, e, eA, q, RLs.thin hn f r⟩
  | .dct tk ks ls, _, _, f, ⟨a, B, e, eA, .inl ⟨et, kvs, q, ek, r⟩⟩ => ⟨a, B, e, eA, .inl ⟨et, kvs, q, ek, RLs.thin hn f r⟩⟩
  | .dct tk ks ls, _, _, f, ⟨a, B, e, eA, .inr ⟨et, kvs, q, ek, r⟩⟩ => ⟨a, B, e, eA, .inr ⟨et, kvs, q, ek, RLs.thin hn f r⟩⟩
  | .obj C ns ls, _, _, f, ⟨a, dx, vs, B, e, eA, q, d, n, r⟩ => ⟨a, dx, vs, B, e, eA, q, d, n, RLs.thin hn f r⟩
  | .pin a l, _, _, f, ⟨e, r⟩ => ⟨e, RL.thin hn (l := l) f r⟩
theorem RLs.thin (hn : NoLst F F2) : ∀ {ls : List L} {vs : List V} {A : List Addr}, L.thins ls = true → RLs K F H ls vs A → RLs K F2 H ls vs A
  | [], _, _, _, h => h
  | l :: ls, _, _, f, ⟨v, r, B, C, e, eA, h1, h2⟩ => by
    have f' : (l.thin && L.thins ls) = true := f
    rw [Bool.and_eq_true] at f'
    exact ⟨v, r, B, C, e, eA, RL.thin hn f'.1 h1, RLs.thin hn f'.2 h2⟩
end
def L.lent : L → Bool
  | .fz _ => true
  | .lst ls => ls.all L.isFz
  | _ => false
theorem RL.lent {l : L} {v : V} {A : List Addr} (h : RL K F H l v A) (e : l.lent = true) : ∀ b ∈ A, ∃ xs, H b = some (.lst xs) := by
  cases l with
  | fz t => obtain ⟨eA, _⟩ := h; subst eA; intro b hb; cases hb
  | lst ls =>
    obtain ⟨a, vs, B, _, eA, ha, hv⟩ := h
    have e' : ls.all L.isFz = true := e
    rw [fz_of_all e'] at hv
    obtain ⟨eB, _⟩ := hv.fz_inv
    subst eB eA
    intro b hb
    have : b = a := by simpa using hb
    subst this
    exact ⟨vs, ha⟩
  | _ => cases e
theorem RLs.lent : ∀ {ls : List L} {vs : List V} {A : List Addr}, RLs K F H ls vs A → ls.all L.lent = true → ∀ b ∈ A, ∃ xs, H b = some (.lst xs)
  | [], _, _, ⟨_, e⟩, _, b, hb => by subst e; cases hb
  | l :: ls, _, _, ⟨v, r, B, C, _, eA, h1, h2⟩, e, b, hb => by
    subst eA
    rw [List.all_cons, Bool.and_eq_true] at e
    rcases List.mem_append.mp hb with z | z
    · exact h1.lent e.1 b z
    · exact RLs.lent h2 e.2 b z
theorem makeT_sp {C : Addr} {sp : SpT} {F H F1 H1 : Hp} {ts : List T} {vs : List V} {B : List Addr} {Q : VK} {E : XK} {G : L → Bool → Prop}
    (w : ∀ l o, G l o → ∀ v F' H' B, RP K F H F' H' → RL K F' H' l v B → (o = true → B.Nodup ∧ ∀ b ∈ B, F' b = none ∧ H b = none) → Q v H')
    (g : ∀ x : Nat, sp (.pin x (.obj C [] []) :: ts.map L.fz) fun r bk => r = .fz .non ∧ match bk with | [.pin _ l] => l.thin = true ∧ G (.fz l.tree) true | _ => False)
    (r1 : RP K F H F1 H1) (t0 : Tb K H) (hs : RTs K (mix B F1 H1) ts vs) (hB : ∀ b ∈ B, ∃ xs, H1 b = some (.lst xs)) {x dx : Addr} (hx : H1 x = none) (hdx : H1 dx = none) (ne : dx ≠ x) :
    spOf K sp (.ref x :: vs) (upd (upd H1 dx (.own x)) x (.ins C dx [])) (fun v H2 => v = .non ∧ Q (.ref x) H2) E := by
  have s2 : SameH K H1 (upd (upd H1 dx (.own x)) x (.ins C dx [])) := .of fun b o e => by
    rw [upd_ne (ne_of_none e hx), upd_ne (ne_of_none e hdx)]
    exact e
  have fxm : ∀ y, H1 y = none → mix B F1 H1 y = none := fun y hy => Same.no (mix_le r1.fh) hy
  have two : ∀ a, a ∈ [x, dx] → H1 a = none := fun a ha => by
    have z : a = x ∨ a = dx := by simpa using ha
    rcases z with z | z <;> (rw [z]; assumption)
  refine ⟨(t0.on r1.hx.t).on s2.t, mix B F1 H1, .pin x (.obj C [] []) :: ts.map L.fz, [x, dx], _, (mix_le r1.fh).trans s2.s, ?_, by simp [Ne.symm ne], fun a ha => fxm a (two a ha), g x, fun r ls' q v F' H' A' C' fh' hb hr nd fr st => ?_⟩
  · exact ⟨.ref x, vs, [x, dx], [], rfl, rfl, ⟨rfl, x, dx, [], [], rfl, rfl, upd_same, by rw [upd_ne ne, upd_same], rfl, rfl, rfl⟩, RLs.fzs hs⟩
  · obtain ⟨er, q⟩ := q
    subst er
    obtain ⟨eC, hrv⟩ := hr
    have hrv' : v = .non := hrv
    subst eC hrv'
    refine ⟨rfl, ?_⟩
    have epv : pinV (.pin x (.obj C [] []) :: ts.map L.fz) = [.ref x] := by
      show V.ref x :: pinV (ts.map L.fz) = _
      rw [pinV_fz]
    rw [epv] at hb
    split at q
    · rename_i x' l
      obtain ⟨th, q⟩ := q
      obtain ⟨v, r, B1, C1, e1, e2, h2, h3⟩ := hb
      obtain ⟨e4, e5⟩ := h3
      subst e5 e4
      cases e1
      rw [List.append_nil] at e2
      subst e2
      have nA : ∀ a ∈ A', H1 a = none := fun a ha => by
        rcases st.nA a (List.mem_append_left _ ha) with z | z
        · exact two a z
        · exact Same.no s2.s z
      have hh : SameH K H1 H' := ⟨⟨fun {a o} e nt => st.ch (s2.s.k e nt) nt fun z => (by rw [two a z] at e; cases e), fun n => st.dom _ (s2.s.d n)⟩, fun z => st.tb (s2.t z)⟩
      let F2 : Hp := fun a => if a ∈ B ∧ F1 a = none then none else F' a
      have F2le : Same F2 F' := .of fun a o e => by
        by_cases z : a ∈ B ∧ F1 a = none
        · have : F2 a = none := if_pos z
          rw [this] at e; cases e
        · have : F2 a = F' a := if_neg z
          rw [this] at e; exact e
      have F2of : ∀ a, ¬ (a ∈ B ∧ F1 a = none) → F2 a = F' a := fun a z => if_neg z
      have nl : NoLst F' F2 := fun a o e n => by
        by_cases z : a ∈ B ∧ F1 a = none
        · obtain ⟨xs, hxs⟩ := hB a z.1
          have y : mix B F1 H1 a = some (.lst xs) := by rw [mix_in z.1]; exact hxs
          rw [st.ff.g y] at e
          cases e
          exact (n xs rfl).elim
        · rw [F2of a z]; exact e
      have hl := RL.thin (K := K) (F := F') (F2 := F2) nl th h2.2
      have ht : RT K (mix A' F2 H') l.tree (.ref x) := hl.tree (mix_same (F2le.trans fh')) mix_on
      refine w _ true q (.ref x) (mix A' F2 H') H' [] ⟨r1.hx.trans hh, ⟨fun {a o} e nt => ?_, fun {a} n => ?_⟩, mix_le (F2le.trans fh'), fun a n => ?_⟩ ⟨rfl, ht⟩ own_nil
      · have e1 := r1.ff.k e nt
        have e2 : F' a = some o := st.ff.k ((mix_same r1.fh).k e1 nt) nt
        refine (mix_same (F2le.trans fh')).k ?_ nt
        rw [F2of a (fun z => by rw [e1] at z; cases z.2)]
        exact e2
      · have e1 := r1.ff.d n
        refine (mix_same (F2le.trans fh')).d ?_
        rw [F2of a (fun z => e1 z.2)]
        exact st.ff.d ((mix_same r1.fh).d e1)
      · rcases mix_ne n with z | z
        · by_cases zb : a ∈ B ∧ F1 a = none
          · exact (z (if_pos zb)).elim
          · rw [F2of a zb] at z
            rcases st.nF a z with y | y | y
            · rcases mix_ne y with u | u
              · exact r1.nw a u
              · by_cases f1 : F1 a = none
                · exact (zb ⟨u, f1⟩).elim
                · exact r1.nw a f1
            · exact .inr (none_of_dom r1.dom (two a y))
            · exact .inr (none_of_dom r1.dom (Same.no s2.s y))
        · exact .inr (none_of_dom r1.dom (nA a z))
    · exact q.elim
end
end HTr
namespace HTr
open PySem L2
variable {EX : WX}
def rMakeKT (C n n2 : Nat) (sp : SpT) (gT : List T → List T → List T) (ma mk : MA) : MR := fun S Q => ma S fun ls _ => mk S fun zs _ => (ls.all L.lent = true ∧ zs.all L.lent = true) ∧ ls.length = n ∧ zs.length = n2 ∧
  ∀ x : Nat, sp (.pin x (.obj C [] []) :: (gT (L.trees ls) (L.trees zs)).map .fz) fun r bk => r = .fz .non ∧ match bk with
    | [.pin _ l] => l.thin = true ∧ Q (.fz l.tree) true
    | _ => False
section
variable {X : Cx} {K : PySem.W.Frag} {ws : List Nat}
theorem lr_makeKT {e : Expr} {C : Addr} {n n2 : Nat} {sp : SpT} {gT : List T → List T → List T} {gV gV' : List V → List V → List V} {ma mk : MA} {E : XK} (hv : ∀ x vs zs, vs.length = n → zs.length = n2 → gV (x :: vs) zs = x :: gV' vs zs)
    (hT : ∀ F ts us vs zs, RTs K F ts vs → RTs K F us zs → ts.length = n → us.length = n2 → RTs K F (gT ts us) (gV' vs zs)) (h : PE X e (tMakeK C n n2 (spOf K sp) gV E (liftA K ma) (liftA K mk))) : PE X e (liftR K (rMakeKT C n n2 sp gT ma mk)) := peW h fun σ H Q ⟨F, S, A, G, k, q, w⟩ =>
  ⟨F, S, A, _, k, q, fun ls o g us F1 H1 B r1 h1 o1 => ⟨F1, S, A, _, k.rp r1, g, fun zs o2 ⟨⟨e1, e2⟩, l1, l2, g2⟩ vz F2 H2 B2 r2 h2 o3 => by
    have rr := r1.trans r2
    refine ⟨by rw [h1.len]; exact l1, by rw [h2.len]; exact l2, fun x dx hx hdx ne => ?_⟩
    have h1' := h1.mono r2.ff (On.of r2.hh B)
    have on : On (B ++ B2) H2 (mix (B ++ B2) F2 H2) := mix_on
    have t1 : RTs K (mix (B ++ B2) F2 H2) (L.trees ls) us := h1'.tree (mix_same rr.fh) on.left
    have t2 : RTs K (mix (B ++ B2) F2 H2) (L.trees zs) vz := h2.tree (mix_same rr.fh) on.right
    have tt := hT _ _ _ _ _ t1 t2 (by rw [L.trees_eq, List.length_map]; exact l1) (by rw [L.trees_eq, List.length_map]; exact l2)
    rw [hv _ _ _ (by rw [h1.len]; exact l1) (by rw [h2.len]; exact l2)]
    refine makeT_sp (K := K) (G := G) (Q := Q) (E := E) w g2 rr k.tb tt (fun b hb => ?_) hx hdx ne
    rcases List.mem_append.mp hb with z | z
    · exact h1'.lent e1 b z
    · exact h2.lent e2 b z⟩⟩
def rPinned (m : MR) : MR := fun S Q => m S fun l o => isLst l = true ∧ ∀ p : Nat, Q (.pin p l) o
theorem lr_pinned {e : Expr} {m : MR} (h : PE X e (liftR K m)) : PE X e (liftR K (rPinned m)) := peW h fun σ H Q ⟨F, S, A, G, k, q, w⟩ =>
  ⟨F, S, A, _, k, q, fun l o ⟨il, g⟩ v F1 H1 B r1 h1 o1 => by
    cases l with
    | lst ls =>
      have h1' := h1
      obtain ⟨a, vs, B', ev, _⟩ := h1
      exact w (.pin a (.lst ls)) o (g a) v F1 H1 B r1 ⟨ev, h1'⟩ o1
    | _ => cases il⟩
def peekF (i : Nat) (f : Str) (S : S) : Option L := match S[i]? with
  | some (some (.pin _ (.obj _ ns ls))) => look f ns ls
  | some (some (.obj _ ns ls)) => look f ns ls
  | _ => none
theorem peek_ok {F H : Hp} {S : HTr.S} {σ : L2.St} {A : List Addr} {i : Nat} {f : Str} {p : Nat} {ls : List L} (k : Ok K F H S σ A) (e : peekF i f S = some (.pin p (.lst ls))) (hf : ls.all L.isFz = true) : ∃ xs, H p = some (.lst xs) ∧ RTs K F (L.trees ls) xs := by
  have fin : ∀ {C : Nat} {ns : List Str} {us : List L} {v : V} {B : List Addr}, RL K F H (.obj C ns us) v B → look f ns us = some (.pin p (.lst ls)) → ∃ xs, H p = some (.lst xs) ∧ RTs K F (L.trees ls) xs := fun {C ns us v B} h el => by
    obtain ⟨a, dx, vs, B', ev, eB, ha, hd, hn, hv⟩ := h
    obtain ⟨u, B2, hu, ru, rl⟩ := look_RLs hv el
    obtain ⟨a2, xs, B3, ev2, _, hp, hx⟩ := rl
    rw [ru] at ev2
    cases ev2
    rw [fz_of_all hf] at hx
    exact ⟨xs, hp, hx.fz_inv.2⟩
  unfold peekF at e
  split at e
  · rename_i a C ns us es
    obtain ⟨v, B, _, h, _⟩ := k.cs.get es
    exact fin h.2 e
  · rename_i C ns us es
    obtain ⟨v, B, _, h, _⟩ := k.cs.get es
    exact fin h e
  · cases e
def forP (i : Nat) (f : Str) (p : Nat) (ls : List L) (g : MG) (b : MS) : List T → MS
  | [], e, S => peekF i f S = some (.pin p (.lst ls)) ∧ e.nx S
  | t :: ts, e, S => peekF i f S = some (.pin p (.lst ls)) ∧ g t S fun S1 => b { e with nx := forP i f p ls g b ts e, ct := forP i f p ls g b ts e, bk := e.nx } S1
def sForP (C : Nat) (i : Nat) (f : Str) (g : MG) (b : MS) : MS := fun e S => ∃ (p : Nat) (ls : List L) (a : Nat) (ns : List Str) (us : List L), S[i]? = some (some (.pin a (.obj C ns us))) ∧ look f ns us = some (.pin p (.lst ls)) ∧ ls.all L.isFz = true ∧ forP i f p ls g b (L.trees ls) e S
theorem ls_forP {st : Stmt} {C : Addr} {i : Nat} {f : Str} {g : MG} {b : MS} (c0 : Cls K C) (n0 : NoAttr K C f) (h : PS X st (tFor (iSeqA K (tFld K (tVar i) f)) (liftG K ws g) (liftS K EX b))) : PS X st (liftS K EX (sForP C i f g b)) := psW h fun D σ H ⟨F, S, A, k, e, ⟨p, ls, a, ns, us, es, el, hf, q⟩, c⟩ => by
  obtain ⟨v, B, hv, hr, _⟩ := k.cs.get es
  obtain ⟨ev, a2, dx, vs, B', ev2, eB, ha, hd, hn, hx⟩ := hr
  obtain ⟨u, B2, hu, ru⟩ := look_RLs hx el
  have hu2 := ru.1
  have pk : peekF i f S = some (.pin p (.lst ls)) := by unfold peekF; rw [es]; exact el
  obtain ⟨xs0, hp0, _⟩ := peek_ok k pk hf
  refine ⟨v, hv, a2, C, dx, _, u, ev2, ha, c0, n0, by rw [look_zip]; exact hu, .inl ⟨p, hu2, ⟨xs0, .inl (.inl hp0)⟩, ?_⟩⟩
  refine ⟨fun j m σ' H' => m = (L.trees ls).length - j ∧ j ≤ (L.trees ls).length ∧ ∃ F' S' A', Ok K F' H' S' σ' A' ∧ Step K F H A F' H' A' ∧ forP i f p ls g b ((L.trees ls).drop j) e S', ⟨(L.trees ls).length, by simp, Nat.zero_le _, F, S, A, k, Step.refl, by simpa using q⟩, ?_⟩
  rintro j m σ1 H1 ⟨rfl, hj, F1, S1, A1, k1, t1, q1⟩
  by_cases hlt : j < (L.trees ls).length
  · have ed : (L.trees ls).drop j = (L.trees ls)[j] :: (L.trees ls).drop (j + 1) := List.drop_eq_getElem_cons hlt
    rw [ed] at q1
    obtain ⟨pk1, q1⟩ := q1
    obtain ⟨xs, hp, hx1⟩ := peek_ok k1 pk1 hf
    obtain ⟨y, hy, ry⟩ := hx1.get (List.getElem?_eq_getElem hlt)
    refine .inr ⟨⟨xs, y, .inl (.inl hp), hy⟩, fun σ' H' => ∃ F' S' A', Ok K F' H' S' σ' A' ∧ Step K F H A F' H' A' ∧ forP i f p ls g b ((L.trees ls).drop (j + 1)) e S', fun σ' H' z => ⟨(L.trees ls).length - (j + 1), by omega, rfl, hlt, z⟩, fun x H' yl => ?_⟩
    obtain ⟨e1, yl⟩ := yl
    subst e1
    have z := yl xs (.inl (.inl hp))
    rw [hy] at z
    cases z
    refine ⟨F1, S1, A1, _, _, k1, ry, q1, fun S2 σ2 A2 g2 k2 s2 _ _ => ?_⟩
    have t2 := t1.sub (B := A2) fun a ha => .inl (s2 a ha)
    exact ⟨F1, S2, A2, k2, _, g2, ⟨fun F3 S3 σ3 H3 A3 k3 t3 q3 => ⟨F3, S3, A3, k3, t2.trans t3, q3⟩, (c.on t2).nx, fun F3 S3 σ3 H3 A3 k3 t3 q3 => ⟨F3, S3, A3, k3, t2.trans t3, q3⟩, (c.on t2).rt, (c.on t2).ex⟩⟩
  · have e1 : j = (L.trees ls).length := by omega
    subst e1
    rw [List.drop_length] at q1
    obtain ⟨pk1, q1⟩ := q1
    obtain ⟨xs, hp, hx1⟩ := peek_ok k1 pk1 hf
    exact .inl ⟨⟨xs, .inl (.inl hp), by rw [hx1.len]; exact Nat.le_refl _⟩, (c.on t1).nx F1 S1 σ1 H1 A1 k1 Step.refl q1⟩
end
end HTr
namespace HTr
open PySem L2
section
variable {K : PySem.W.Frag}
theorem callT_sp {sp : SpT} {dts : List T} {dvs : List V} (hd : ∀ F, RTs K F dts dvs) {F H F1 H1 : Hp} {ls : List L} {vs : List V} {B : List Addr} {Q : VK} {E : XK} {G : L → Bool → Prop}
    (w : ∀ l o, G l o → ∀ v F' H' B, RP K F H F' H' → RL K F' H' l v B → (o = true → B.Nodup ∧ ∀ b ∈ B, F' b = none ∧ H b = none) → Q v H')
    (g : sp (frz ls ++ dts.map L.fz) fun r _ => r.thin = true ∧ G r true) (r1 : RP K F H F1 H1) (t0 : Tb K H) (h1 : RLs K F1 H1 ls vs B) (hB : ∀ b ∈ B, ∃ xs, H1 b = some (.lst xs)) : spOf K sp (vs ++ dvs) H1 Q E := by
  have hs : RTs K (mix B F1 H1) (L.trees ls) vs := h1.tree (mix_same r1.fh) mix_on
  refine ⟨t0.on r1.hx.t, mix B F1 H1, frz ls ++ dts.map L.fz, [], _, mix_le r1.fh, ?_, .nil, fun _ z => (by cases z), g, fun r ls' q v F' H' A' C fh' hb hr nd fr st => ?_⟩
  · exact RLs.app (A := []) (B := []) (RLs.fzs hs) (RLs.fzs (hd _))
  · have hh : SameH K H1 H' := ⟨⟨fun e n => st.ch e n (by simp), fun n => st.dom _ n⟩, st.tb⟩
    have nC : C.Nodup := (List.nodup_append.mp nd).2.1
    have fC : ∀ c ∈ C, F' c = none ∧ H1 c = none := fun c hc => ⟨fr c (List.mem_append_right _ hc), (st.nA c (List.mem_append_right _ hc)).elim (fun z => by cases z) id⟩
    let F2 : Hp := fun a => if a ∈ B ∧ F1 a = none then none else F' a
    have F2no : ∀ a, (a ∈ B ∧ F1 a = none) → F2 a = none := fun a z => if_pos z
    have F2of : ∀ a, ¬ (a ∈ B ∧ F1 a = none) → F2 a = F' a := fun a z => if_neg z
    have F2le : Same F2 F' := .of fun a o e => by
      by_cases z : a ∈ B ∧ F1 a = none
      · rw [F2no a z] at e; cases e
      · rw [F2of a z] at e; exact e
    have nl : NoLst F' F2 := fun a o e n => by
      by_cases z : a ∈ B ∧ F1 a = none
      · obtain ⟨xs, hxs⟩ := hB a z.1
        have y : mix B F1 H1 a = some (.lst xs) := by rw [mix_in z.1]; exact hxs
        rw [st.ff.g y] at e
        cases e
        exact (n xs rfl).elim
      · rw [F2of a z]; exact e
    refine w r true q.2 v F2 H' C ⟨r1.hx.trans hh, ⟨fun {a o} e nt => ?_, fun {a} n => ?_⟩, F2le.trans fh', fun a n => ?_⟩ (RL.thin (K := K) (F := F') (F2 := F2) nl q.1 hr) fun _ => ⟨nC, fun c hc => ⟨Same.no F2le (fC c hc).1, none_of_dom r1.dom (fC c hc).2⟩⟩
    · have e1 := r1.ff.k e nt
      have e2 : F' a = some o := st.ff.k ((mix_same r1.fh).k e1 nt) nt
      rw [F2of a (fun z => by rw [e1] at z; cases z.2)]
      exact e2
    · have e1 := r1.ff.d n
      rw [F2of a (fun z => e1 z.2)]
      exact st.ff.d ((mix_same r1.fh).d e1)
    · by_cases zb : a ∈ B ∧ F1 a = none
      · exact (n (F2no a zb)).elim
      · rw [F2of a zb] at n
        rcases st.nF a n with z | z | z
        · rcases mix_ne z with y | y
          · exact r1.nw a y
          · by_cases f1 : F1 a = none
            · exact (zb ⟨y, f1⟩).elim
            · exact r1.nw a f1
        · cases z
        · exact .inr (none_of_dom r1.dom z)
def rCallT (sp : SpT) (dts : List T) (m : MA) : MR := fun S Q => m S fun ls _ => ls.all L.lent = true ∧ sp (frz ls ++ dts.map L.fz) fun r _ => r.thin = true ∧ Q r true
variable {X : Cx}
theorem lr_callT {e : Expr} {sp : SpT} {dts : List T} {dvs : List V} {m : MA} {E : XK} (hd : ∀ F, RTs K F dts dvs) (h : PE X e (tCall (spOf K sp) dvs E (liftA K m))) : PE X e (liftR K (rCallT sp dts m)) := peW h fun σ H Q ⟨F, S, A, G, k, q, w⟩ =>
  ⟨F, S, A, _, k, q, fun ls o g vs F1 H1 B r1 h1 o1 => callT_sp hd w g.2 r1 k.tb h1 (h1.lent g.1)⟩
end
end HTr
namespace HTr
open PySem L2
variable {EX : WX}
section
variable {X : Cx} {K : PySem.W.Frag}
theorem ls_setW {st : Stmt} {i : Nat} {m : MR} {t : TE} (w : ∀ σ H Q, liftR K m σ H Q → t σ H Q) (h : PS X st (tAsg t (gName i))) : PS X st (liftS K EX (sSet i m)) := psW h fun D σ H ⟨F, S, A, k, e, q, c⟩ =>
  w σ H _ ⟨F, S, A, _, k, q, fun l o ⟨eo, hi, g⟩ v F1 H1 B r1 h1 o1 => by
    obtain ⟨nB, fB⟩ := o1 eo
    obtain ⟨A', k', t'⟩ := k.put r1 h1 nB fB hi
    exact c.nx F1 _ _ H1 A' k' t' g⟩
section
variable {ws vs : List Nat}
theorem w_compR1 {it : MA} {m : MR} {g : MG} {c : MT} (hw : ∀ j, j ∈ ws → j ∈ vs) : ∀ σ H Q, liftR K (rCompR1 it g c m vs) σ H Q → tLc (iRng1 (liftA K it)) (liftG K ws g) (liftT K c) (liftR K m) vs σ H Q := fun σ H Q ⟨F, S, A, G, k, q, w⟩ =>
  ⟨F, S, A, _, k, q, fun ls o gq us F1 H1 B r1 h1 _ => by
    split at gq
    · rename_i j
      obtain ⟨e1, e2⟩ := RLs.atoms1 (v := .int j) rfl h1
      obtain ⟨w1, w2, w3⟩ := rng_walk (K := K) (F1 := F1) (H1 := H1) 0 j.toNat
      exact ⟨j, e1, gq.1.1, gq.1.2, fun D hD => comp_core hw w w1 w2 w3 (k.rp r1) r1 hD gq.2⟩
    · exact gq.elim⟩
end
end
theorem compL_det {α : Type} {g : MG} {c : MT} {m : MR} {S0 : S} {F : α → T} (f : α → L) (p : α → Bool) : ∀ {xs : List α} {acc : List L} {Q : List L → Prop},
    (∀ x ∈ xs, ∀ (X : L → Prop) (Y : Prop), (p x = true → X (f x)) → (p x = false → Y) → g (F x) S0 fun S1 => c S1 fun b => if b = true then m S1 fun l o => o = true ∧ X l else Y) →
    acc.length + xs.length ≤ sizeLine → Q (acc ++ (xs.filter p).map f) → compL g c m (xs.map F) S0 acc Q
  | [], acc, Q, _, _, q => by simpa [compL] using q
  | x :: xs, acc, Q, h, hl, q => by
    rw [List.map_cons]
    refine h x List.mem_cons_self (fun l => acc.length < sizeLine ∧ compL g c m (xs.map F) S0 (acc ++ [l]) Q) _ (fun e => ⟨by simp at hl; omega, ?_⟩) (fun e => ?_)
    · exact compL_det f p (fun y hy => h y (List.mem_cons_of_mem _ hy)) (by simp at hl ⊢; omega) (by simpa [List.filter_cons, e] using q)
    · exact compL_det f p (fun y hy => h y (List.mem_cons_of_mem _ hy)) (by simp at hl ⊢; omega) (by simpa [List.filter_cons, e] using q)
theorem compL_map {α : Type} {g : MG} {m : MR} {S0 : S} {F : α → T} (f : α → L) {xs : List α} {acc : List L} {Q : List L → Prop}
    (h : ∀ x ∈ xs, ∀ (X : L → Prop), X (f x) → g (F x) S0 fun S1 => m S1 fun l o => o = true ∧ X l)
    (hl : acc.length + xs.length ≤ sizeLine) (q : Q (acc ++ xs.map f)) : compL g cYes m (xs.map F) S0 acc Q :=
  compL_det f (fun _ => true) (fun x hx X Y h1 _ => by
    have := h x hx X (h1 rfl)
    simpa [cYes] using this) hl (by rw [List.filter_eq_self.mpr fun _ _ => rfl]; exact q)
theorem forL_inv {α : Type} {g : MG} {b : MS} {e : ET} {F : α → T} (I : List α → S → Prop) : ∀ {rest pre : List α} {S : S}, I pre S →
    (∀ pre' x post S, pre' ++ x :: post = pre ++ rest → I pre' S → ∀ k : HTr.S → Prop, (∀ S', I (pre' ++ [x]) S' → k S') → g (F x) S fun S1 => b { e with nx := k, ct := k, bk := e.nx } S1) →
    (∀ S, I (pre ++ rest) S → e.nx S) → forL g b (rest.map F) e S
  | [], pre, S, i, _, q => q S (by simpa using i)
  | x :: rest, pre, S, i, h, q => by
    rw [List.map_cons]
    refine h pre x rest S rfl i (forL g b (rest.map F) e) fun S' i' => ?_
    exact forL_inv I i' (fun pre' y post S e' i2 => h pre' y post S (by simpa using e') i2) (fun S i2 => q S (by simpa using i2))
theorem forL_all {α : Type} {g : MG} {b : MS} {e : ET} {F : α → T} (I : List α → S → Prop) {xs : List α} {S : S} (i : I [] S)
    (h : ∀ pre x post S, pre ++ x :: post = xs → I pre S → ∀ k : HTr.S → Prop, (∀ S', I (pre ++ [x]) S' → k S') → g (F x) S fun S1 => b { e with nx := k, ct := k, bk := e.nx } S1)
    (q : ∀ S, I xs S → e.nx S) : forL g b (xs.map F) e S := forL_inv I i (fun pre x post S e' => h pre x post S (by simpa using e')) (fun S i2 => q S (by simpa using i2))
end HTr
namespace HTr
open PySem L2
section
variable {X : Cx} {K : PySem.W.Frag} {F H : Hp}
theorem RL.key {l : L} {v : V} {B : List Addr} {k : Key} (h : RL K F H l v B) (fh : Same F H) (e : l.tree = keyT k) : v = kV k := by
  have z := h.seen fh
  rw [e] at z
  cases k with
  | inl i => exact z
  | inr x => exact z
end
end HTr
namespace HTr
open PySem L2
def big : Nat := 1000000
def strOk (x : Str) : Bool := x.cps.all (· < 0x110000)
def Pl : Nat → T → Prop
  | _, .non => True
  | _, .bl _ => True
  | _, .int _ => True
  | _, .str x => strOk x = true
  | d + 1, .tup ts => ts.length ≤ big ∧ ∀ t ∈ ts, Pl d t
  | d + 1, .lst ts => ts.length ≤ big ∧ ∀ t ∈ ts, Pl d t
  | _, _ => False
theorem Pl.noAt {d : Nat} {t : T} (h : Pl d t) : L.strip (.fz t) = .fz t := by
  cases t <;> first | rfl | (cases d <;> exact h.elim)
end HTr
namespace HTr
open PySem L2
def kwAt (f : Str × Option Str) (x : Str) (K : PySem.W.Frag) : Addr := match K.lookup (He.fAd K f) with
  | some ⟨_, _, .func fd, _⟩ => (match fd.kwdefaults with
    | .ref D => (match PySem.W.nsIn K D x with
      | some (some (.ref a)) => a
      | _ => 0)
    | _ => 0)
  | _ => 0
def tup0B (K : PySem.W.Frag) (a : Addr) : Bool := match K.lookup a with
  | some ⟨.type c, _, .seq its _, _⟩ => decide (c = "tuple") && its.toList.isEmpty
  | _ => false
abbrev VP : Type := { p : V × Value // RelV p.1 p.2 }
theorem vals_pairs : ∀ {vs : List V} {us : List Value}, Vals vs us → ∃ P : List VP, vs = P.map (·.1.1) ∧ us = P.map (·.1.2)
  | _, _, .nil => ⟨[], rfl, rfl⟩
  | _, _, .cons h r => by
    obtain ⟨P, e1, e2⟩ := vals_pairs r
    exact ⟨⟨(_, _), h⟩ :: P, by rw [e1]; rfl, by rw [e2]; rfl⟩
theorem vals_of : ∀ P : List VP, Vals (P.map (·.1.1)) (P.map (·.1.2))
  | [] => .nil
  | p :: P => .cons p.2 (vals_of P)
def spLaw : SpT := fun ls G => ∃ xs : List Int, ls = [.fz (.scr xs)] ∧ G (.fz (.bl true)) []
theorem law_start {K : PySem.W.Frag} {H : Hp} {a : Addr} {ns : List Int} {E : XK} (t0 : Tb K H) (hS : SqL K H a (ns.map V.int)) : spOf K spLaw [.ref a] H (fun v _ => v = .bl true) E := by
  refine ⟨t0, H, [.fz (.scr ns)], [], fun r ls' => r = .fz (.bl true), Same.refl _, ⟨.ref a, [], [], [], rfl, rfl, ⟨rfl, a, rfl, hS⟩, rfl, rfl⟩, .nil, (fun a h => by cases h), ⟨ns, rfl, rfl⟩, fun r ls' e v F' H' A' B fh hb hr nd nf st => ?_⟩
  subst e
  exact hr.2
end HTr
namespace HTr
open PySem L2
variable {EX : WX}
section
variable {X : Cx} {K : PySem.W.Frag}
theorem ls_frzW {st : Stmt} {i : Nat} {m : MR} {t : TE} (w : ∀ σ H Q, liftR K m σ H Q → t σ H Q) (h : PS X st (tAsg t (gName i))) : PS X st (liftS K EX (sAsg m (gSlot i))) := psW h fun D σ H ⟨F, S, A, k, e, q, c⟩ =>
  w σ H _ ⟨F, S, A, _, k, q, fun l o ⟨eo, hi, g⟩ v F1 H1 B r1 h1 o1 => by
    obtain ⟨nB, fB⟩ := o1 eo
    obtain ⟨rp, k2, ht⟩ := k.freeze r1 h1 fB
    obtain ⟨A', k3, s⟩ := k2.setF ht hi
    exact c.nx _ _ _ H1 A' k3 (rp.step.sub fun a ha => .inl (s a ha)) g⟩
theorem ls_frz {st : Stmt} {i : Nat} {m : MR} (h : PS X st (tAsg (liftR K m) (gName i))) : PS X st (liftS K EX (sAsg m (gSlot i))) := ls_frzW (fun _ _ _ q => q) h
def fInt (ls : List L) (G : L → Prop) : Prop := match ls with
  | [.fz (.int i)] => G (.fz (.int i))
  | [.fz (.bl b)] => G (.fz (.int (if b = true then 1 else 0)))
  | _ => False
theorem cg_int : CaG K (fun xs H Q => (∃ i, xs = [.int i] ∧ Q (.int i) H) ∨ ∃ k, xs = [.bl k] ∧ Q (.int (if k then 1 else 0)) H) fInt := by
  intro F H vs ls B Q G fh h g o
  unfold fInt at g
  split at g
  · rename_i i
    obtain ⟨e1, e2⟩ := RLs.atoms1 (v := .int i) rfl h
    exact .inl ⟨i, e1, o.atom fh g rfl⟩
  · rename_i b
    obtain ⟨e1, e2⟩ := RLs.atoms1 (v := .bl b) rfl h
    exact .inr ⟨b, e1, o.atom fh g rfl⟩
  · exact g.elim
end
end HTr
namespace HTr
open PySem L2
def outOk (o : Bool) (ls : List L) (r : L) : Prop := (o = true ∨ r.flat = true) ∨ (ls.all L.lent = true ∧ r.thin = true)
section
variable {K : PySem.W.Frag}
theorem callU_sp {sp : SpT} {dts : List T} {dvs : List V} (hd : ∀ F, RTs K F dts dvs) {F H F1 H1 : Hp} {ls : List L} {o : Bool} {vs : List V} {B : List Addr} {Q : VK} {E : XK} {G : L → Bool → Prop}
    (w : ∀ l o, G l o → ∀ v F' H' B, RP K F H F' H' → RL K F' H' l v B → (o = true → B.Nodup ∧ ∀ b ∈ B, F' b = none ∧ H b = none) → Q v H')
    (g : sp (frz ls ++ dts.map L.fz) fun r _ => outOk o ls r ∧ G r true) (r1 : RP K F H F1 H1) (t0 : Tb K H) (h1 : RLs K F1 H1 ls vs B) (o1 : o = true → B.Nodup ∧ ∀ b ∈ B, F1 b = none ∧ H b = none) : spOf K sp (vs ++ dvs) H1 Q E := by
  have hs : RTs K (mix B F1 H1) (L.trees ls) vs := h1.tree (mix_same r1.fh) mix_on
  refine ⟨t0.on r1.hx.t, mix B F1 H1, frz ls ++ dts.map L.fz, [], _, mix_le r1.fh, ?_, .nil, fun _ z => (by cases z), g, fun r ls' q v F' H' A' C fh' hb hr nd fr st => ?_⟩
  · exact RLs.app (A := []) (B := []) (RLs.fzs hs) (RLs.fzs (hd _))
  have hh : SameH K H1 H' := ⟨⟨fun e n => st.ch e n (by simp), fun n => st.dom _ n⟩, st.tb⟩
  have nC : C.Nodup := (List.nodup_append.mp nd).2.1
  have fC : ∀ c ∈ C, F' c = none ∧ H1 c = none := fun c hc => ⟨fr c (List.mem_append_right _ hc), (st.nA c (List.mem_append_right _ hc)).elim (fun z => by cases z) id⟩
  rcases q.1 with (eo | fl) | ⟨le, th⟩
  · obtain ⟨nB, fB⟩ := o1 eo
    refine w r true q.2 v F' H' C ⟨r1.hx.trans hh, (r1.ff.trans (mix_same r1.fh)).trans st.ff, fh', fun a n => ?_⟩ hr fun _ => ⟨nC, fun c hc => ⟨(fC c hc).1, none_of_dom r1.dom (fC c hc).2⟩⟩
    rcases st.nF a n with z | z | z
    · rcases mix_ne z with y | y
      · exact r1.nw a y
      · exact .inr (fB a y).2
    · cases z
    · exact .inr (none_of_dom r1.dom z)
  · exact w r true q.2 v F1 H' C ⟨r1.hx.trans hh, r1.ff, r1.fh.trans hh.s, r1.nw⟩ (hr.flat fl) fun _ => ⟨nC, fun c hc => ⟨Same.no r1.fh (fC c hc).2, none_of_dom r1.dom (fC c hc).2⟩⟩
  · have hB := h1.lent le
    let F2 : Hp := fun a => if a ∈ B ∧ F1 a = none then none else F' a
    have F2no : ∀ a, (a ∈ B ∧ F1 a = none) → F2 a = none := fun a z => if_pos z
    have F2of : ∀ a, ¬ (a ∈ B ∧ F1 a = none) → F2 a = F' a := fun a z => if_neg z
    have F2le : Same F2 F' := .of fun a o e => by
      by_cases z : a ∈ B ∧ F1 a = none
      · rw [F2no a z] at e; cases e
      · rw [F2of a z] at e; exact e
    have nl : NoLst F' F2 := fun a o e n => by
      by_cases z : a ∈ B ∧ F1 a = none
      · obtain ⟨xs, hxs⟩ := hB a z.1
        have y : mix B F1 H1 a = some (.lst xs) := by rw [mix_in z.1]; exact hxs
        rw [st.ff.g y] at e
        cases e
        exact (n xs rfl).elim
      · rw [F2of a z]; exact e
    refine w r true q.2 v F2 H' C ⟨r1.hx.trans hh, ⟨fun {a o} e nt => ?_, fun {a} n => ?_⟩, F2le.trans fh', fun a n => ?_⟩ (RL.thin (K := K) (F := F') (F2 := F2) nl th hr) fun _ => ⟨nC, fun c hc => ⟨Same.no F2le (fC c hc).1, none_of_dom r1.dom (fC c hc).2⟩⟩
    · have e1 := r1.ff.k e nt
      have e2 : F' a = some o := st.ff.k ((mix_same r1.fh).k e1 nt) nt
      rw [F2of a (fun z => by rw [e1] at z; cases z.2)]
      exact e2
    · have e1 := r1.ff.d n
      rw [F2of a (fun z => e1 z.2)]
      exact st.ff.d ((mix_same r1.fh).d e1)
    · by_cases zb : a ∈ B ∧ F1 a = none
      · exact (n (F2no a zb)).elim
      · rw [F2of a zb] at n
        rcases st.nF a n with z | z | z
        · rcases mix_ne z with y | y
          · exact r1.nw a y
          · by_cases f1 : F1 a = none
            · exact (zb ⟨y, f1⟩).elim
            · exact r1.nw a f1
        · cases z
        · exact .inr (none_of_dom r1.dom z)
def rCallU (sp : SpT) (dts : List T) (m : MA) : MR := fun S Q => m S fun ls o => sp (frz ls ++ dts.map L.fz) fun r _ => outOk o ls r ∧ Q r true
variable {X : Cx}
theorem lr_callU {e : Expr} {sp : SpT} {dts : List T} {dvs : List V} {m : MA} {E : XK} (hd : ∀ F, RTs K F dts dvs) (h : PE X e (tCall (spOf K sp) dvs E (liftA K m))) : PE X e (liftR K (rCallU sp dts m)) := peW h fun σ H Q ⟨F, S, A, G, k, q, w⟩ =>
  ⟨F, S, A, _, k, q, fun ls o g vs F1 H1 B r1 h1 o1 => callU_sp hd w g r1 k.tb h1 o1⟩
end
end HTr
namespace HTr
open PySem L2
theorem ltp_one {X : Cx} {K : PySem.W.Frag} {es : List Expr} {m : MT} (h : PTs X es (liftT K m)) : PTs X es (liftT K m) := h
structure GdK (K : PySem.W.Frag) (mg : Str → Option Value) (x : Str) (f : Addr) : Prop where
  fn : ∃ (qual : Str) (params : Arguments) (body : List Stmt) (scope : Scope) (dvs : List V) (kws : List (Str × V)) (fd : FuncData), FunD K x qual params body scope dvs kws f fd
  gl : mg x = some (.ref f)
theorem GdK.kp {K : PySem.W.Frag} {mg : Str → Option Value} {x : Str} {f : Addr} (g : GdK K mg x f) : PySem.W.keepIn K (.ref f) = true := by
  obtain ⟨_, _, _, _, _, _, _, F⟩ := g.fn
  exact F.kp
end HTr
namespace HTr
open PySem L2
variable {EX : WX}
def strT (x : Str) : List T := x.cps.toList.map fun c => .str ⟨#[c]⟩
section
variable {X : Cx} {K : PySem.W.Frag} {ws vs : List Nat}
theorem strT_len (x : Str) : (strT x).length = x.cps.size := by simp [strT]
theorem strT_get {x : Str} {i c : Nat} (h : x.cps[i]? = some c) : (strT x)[i]? = some (.str ⟨#[c]⟩) := by
  have e : x.cps.toList[i]? = some c := by rw [Array.getElem?_toList]; exact h
  simp [strT, h]
theorem str_walk {F1 H1 : Hp} (z : Str) :
    (∀ i H, Same H1 H → i < (strT z).length → (Its z).go i H) ∧ (∀ i H, Same H1 H → (strT z).length = i → (Its z).stop i H) ∧
    ∀ i F H x H', Same F1 F → Same H1 H → Same F H → i < (strT z).length → (Its z).yld i H x H' → ∃ F' t, RP K F H F' H' ∧ (strT z)[i]? = some t ∧ RT K F' t x := by
  rw [strT_len]
  refine ⟨fun i H _ hi => hi, fun i H _ hi => Nat.le_of_eq hi, fun i F H x H' _ _ s3 hi y => ?_⟩
  obtain ⟨e1, c, e2, e3⟩ := y
  subst e1 e3
  exact ⟨F, _, RP.refl s3, strT_get e2, rfl⟩
def rCompX (it : MR) (g : MG) (c : MT) (m : MR) (vs : List Nat) : MR := fun S Q => it S fun l _ => match l with
  | .fz (.str z) => compL g c m (strT z) (wipeS S vs) [] fun ls => Q (.lst ls) true
  | _ => False
theorem w_compX {it m : MR} {g : MG} {c : MT} (hw : ∀ j, j ∈ ws → j ∈ vs) : ∀ σ H Q, liftR K (rCompX it g c m vs) σ H Q → tLc (iStr (liftR K it)) (liftG K ws g) (liftT K c) (liftR K m) vs σ H Q := fun σ H Q ⟨F, S, A, G, k, q, w⟩ =>
  ⟨F, S, A, _, k, q, fun l o gq v F1 H1 B r1 h1 _ => by
    split at gq
    · rename_i z
      obtain ⟨_, rfl⟩ := h1
      obtain ⟨w1, w2, w3⟩ := str_walk (K := K) (F1 := F1) (H1 := H1) z
      exact ⟨z, rfl, fun D hD => comp_core hw w w1 w2 w3 (k.rp r1) r1 hD gq⟩
    · exact gq.elim⟩
theorem lr_compX {e : Expr} {it m : MR} {g : MG} {c : MT} (hw : ∀ j, j ∈ ws → j ∈ vs) (h : PE X e (tLc (iStr (liftR K it)) (liftG K ws g) (liftT K c) (liftR K m) vs)) : PE X e (liftR K (rCompX it g c m vs)) := peW h (w_compX hw)
end
end HTr
namespace HTr
open PySem L2
variable {EX : WX}
section
variable {K : PySem.W.Frag} {ws : List Nat}
variable {X : Cx} {vs : List Nat}
theorem RLs.dropLast {F H : Hp} {t : T} : ∀ {ls : List L} {vs : List V} {B : List Addr}, RLs K F H ls vs B → ls.getLast? = some (.fz t) → ∃ v, vs[vs.length - 1]? = some v ∧ RT K F t v ∧ RLs K F H ls.dropLast vs.dropLast B
  | [], _, _, _, e => by cases e
  | [l], _, _, ⟨v, r, B1, C, e1, e2, h1, h2⟩, e => by
    obtain ⟨e3, e4⟩ := h2
    subst e3 e4 e1 e2
    simp at e
    subst e
    obtain ⟨e5, h5⟩ := h1
    subst e5
    exact ⟨v, rfl, h5, rfl, rfl⟩
  | l :: l' :: ls, _, _, ⟨v, r, B1, C, e1, e2, h1, h2⟩, e => by
    subst e1 e2
    obtain ⟨u, f1, f2, f3⟩ := RLs.dropLast h2 (by simpa using e)
    obtain ⟨v', r', _, _, e3, _, _, _⟩ := h2
    subst e3
    refine ⟨u, by simpa using f1, f2, ?_⟩
    rw [List.dropLast_cons₂, List.dropLast_cons₂]
    exact ⟨v, _, B1, C, rfl, rfl, h1, f3⟩
end
end HTr
namespace HTr
open PySem L2
variable {EX : WX}
section
variable {X : Cx} {K : PySem.W.Frag}
def sPar (i j : Nat) (m : MA) : MS := fun e S => m S fun ls o => o = true ∧ (i < S.length ∧ j < S.length) ∧ ∃ l l', ls = [l, l'] ∧ e.nx ((S.set i (some (.fz l.tree))).set j (some (.fz l'.tree)))
theorem ls_par {st : Stmt} {i j : Nat} {m : MA} (h : PS X st (tPar i j (liftA K m))) : PS X st (liftS K EX (sPar i j m)) := psW h fun D σ H ⟨F, S, A, k, e, q, c⟩ =>
  ⟨F, S, A, _, k, q, fun ls o ⟨eo, ⟨hi, hj⟩, l, l', el, g⟩ vs F1 H1 B r1 h1 o1 => by
    subst el
    obtain ⟨nB, fB⟩ := o1 eo
    have ht : RTs K (mix B F1 H1) (L.trees [l, l']) vs := h1.tree (mix_same r1.fh) mix_on
    have rp : RP K F H (mix B F1 H1) H1 := ⟨r1.hx, r1.ff.trans (mix_same r1.fh), mix_le r1.fh, fun a n => by
      rcases mix_ne n with z | z
      · exact r1.nw a z
      · exact .inr (fB a z).2⟩
    obtain ⟨v, r, e1, t1, w, r2, e2, t2, e3⟩ := ht
    have e4 : r2 = [] := e3
    subst e4 e2 e1
    have k1 := k.rp rp
    obtain ⟨A2, k2, s2⟩ := k1.setF t1 hi
    obtain ⟨A3, k3, s3⟩ := k2.setF (i := j) t2 (by simpa using hj)
    exact ⟨v, w, rfl, c.nx _ _ _ H1 A3 k3 (rp.step.sub fun a ha => .inl (s2 a (s3 a ha))) g⟩⟩
end
end HTr
namespace HTr
open PySem L2
end HTr
namespace HTr
open PySem L2
end HTr
namespace HTr
open PySem L2
variable {EX : WX}
section
variable {X : Cx} {K : PySem.W.Frag}
def fMax2 (ls : List L) (G : L → Prop) : Prop := match ls with
  | [.fz (.int i), .fz (.int j)] => G (.fz (.int (if j > i then j else i)))
  | _ => False
theorem cg_max2 : CaG K (fun xs H Q => ∃ i j, xs = [.int i, .int j] ∧ Q (.int (if j > i then j else i)) H) fMax2 := by
  intro F H vs ls B Q G fh h g o
  unfold fMax2 at g
  split at g
  · rename_i i j
    obtain ⟨v, r, B1, C1, e1, eB, ⟨_, h1⟩, w, r2, B2, C2, e2, eB2, ⟨_, h2⟩, e3⟩ := h
    cases (show _ = _ from h1)
    cases (show _ = _ from h2)
    obtain ⟨e3, _⟩ := e3
    subst e3 e2 e1
    exact ⟨i, j, rfl, o.atom fh g rfl⟩
  · exact g.elim
end
end HTr
namespace HTr
open PySem L2
theorem bt_max : bootBuiltins "max" = some (.builtin "max") := by decide +kernel
end HTr
namespace HTr
open PySem L2
end HTr
set_option maxHeartbeats 2000000
namespace HTr
open PySem L2 PySem.Spec PyProof.Rows
structure Named (X : Cx) (x : Str) (c : Value) : Prop where
  gl : Gl X x
  mg : X.mg x = some c
  db : (x == ("__debug__" : Str)) = false
inductive Kinds (X : Cx) : Expr → List Value → Prop
  | one {x c p} (n : Named X x c) : Kinds X (.Name x p) [c]
  | two {x1 x2 c1 c2 p1 p2 k tp} (n1 : Named X x1 c1) (n2 : Named X x2 c2) : Kinds X (.Tuple [.Name x1 p1, .Name x2 p2] k tp) [c1, c2]
  | three {x1 x2 x3 c1 c2 c3 p1 p2 p3 k tp} (n1 : Named X x1 c1) (n2 : Named X x2 c2) (n3 : Named X x3 c3) : Kinds X (.Tuple [.Name x1 p1, .Name x2 p2, .Name x3 p3] k tp) [c1, c2, c3]
  | four {x1 x2 x3 x4 c1 c2 c3 c4 p1 p2 p3 p4 k tp} (n1 : Named X x1 c1) (n2 : Named X x2 c2) (n3 : Named X x3 c3) (n4 : Named X x4 c4) : Kinds X (.Tuple [.Name x1 p1, .Name x2 p2, .Name x3 p3, .Name x4 p4] k tp) [c1, c2, c3, c4]
theorem Named.ld {X : Cx} {x : Str} {c : Value} {p : Pos} {pins : List (Addr × Obj)} {σ : L2.St} {H : Hp} {s : Shared} {Q : Value → Shared → Prop} {E : Value → Shared → Prop} (n : Named X x c) (I : Inv X pins σ H s) (q : Q c s) : wpAny (model X.prog X.w) X.A (eval (.Name x p) X.env) Q E s :=
  ld_glob I n.gl n.mg q n.db
theorem Named.suite {X : Cx} {x : Str} {c : Value} (n : Named X x c) (a : Addr) (pn : List (Addr × Obj)) : Named (X.suite a pn) x c := ⟨n.gl, n.mg, n.db⟩
theorem Kinds.test {X : Cx} {t : Expr} {cs : List Value} (kd : Kinds X t cs) {a : Addr} {pn : List (Addr × Obj)} {σ : L2.St} {H : Hp} {s : Shared} {cls : Value} {b : Bool} {Q : Bool → Shared → Prop} {E : Value → Shared → Prop}
    (I : Inv (X.suite a pn) [] σ H s) (lk : PySem.W.Looks (model X.prog X.w) s.heap (typeOf (.ref a)) cls) (hb : PySem.W.exmAny X.K cls cs = some b)
    (q : ∀ h' : Heap, (∀ i o, s.heap.get? i = some o → h'.get? i = some o) → Q b { s with heap := h' }) :
    wpAny (model X.prog X.w) (X.A.mark (some (.ref a))) (eval t X.env) (fun v s1 => wpAny (model X.prog X.w) (X.A.mark (some (.ref a))) (excMatches (.ref a) v) Q E s1) E s := by
  have KI : X.K.In s.heap := I.kIn
  have up : ∀ cs : List Value, ∀ i o, s.heap.get? i = some o → (s.heap.push { cls := .type "tuple", data := .seq cs.toArray }).get? i = some o := fun cs i o z => Heap.get?_push_of_some _ z
  have lt : ∀ n : Nat, n ≤ 4 → n ≤ sizeLine := fun n hn => by rw [sizeLine_eq]; omega
  cases kd with
  | @one x c p n =>
    obtain ⟨b1, d1, e1, e2, e3⟩ := PySem.W.exmAny_cons hb
    have e2' : some false = some d1 := e2
    cases e2'
    rw [Bool.or_false] at e3
    subst e3
    exact (n.suite a pn).ld I ((PySem.W.exm_one (M := model X.prog X.w) KI lk e1).here (q s.heap fun _ _ z => z))
  | two n1 n2 =>
    refine wpAny_Tuple (wpAny_items_cons ((n1.suite a pn).ld I ?_))
    refine wpAny_items_cons ((n2.suite a pn).ld I ?_)
    exact wpAny_items_nil ⟨lt 2 (by decide), (PySem.W.exm_tup2 (M := model X.prog X.w) (KI.keeps (up _)) (lk.keeps (up _)) (Heap.get?_push_size s.heap rfl) hb).here (q _ (up _))⟩
  | three n1 n2 n3 =>
    refine wpAny_Tuple (wpAny_items_cons ((n1.suite a pn).ld I ?_))
    refine wpAny_items_cons ((n2.suite a pn).ld I ?_)
    refine wpAny_items_cons ((n3.suite a pn).ld I ?_)
    exact wpAny_items_nil ⟨lt 3 (by decide), (PySem.W.exm_tup3 (M := model X.prog X.w) (KI.keeps (up _)) (lk.keeps (up _)) (Heap.get?_push_size s.heap rfl) hb).here (q _ (up _))⟩
  | four n1 n2 n3 n4 =>
    refine wpAny_Tuple (wpAny_items_cons ((n1.suite a pn).ld I ?_))
    refine wpAny_items_cons ((n2.suite a pn).ld I ?_)
    refine wpAny_items_cons ((n3.suite a pn).ld I ?_)
    refine wpAny_items_cons ((n4.suite a pn).ld I ?_)
    exact wpAny_items_nil ⟨lt 4 (by decide), (PySem.W.exm_tup4 (M := model X.prog X.w) (KI.keeps (up _)) (lk.keeps (up _)) (Heap.get?_push_size s.heap rfl) hb).here (q _ (up _))⟩
theorem flying_up {B : Heap} {l : List Env} {a : Addr} {Z : Obj → Prop} {h h' : Heap} (f : HandSPX.FlyingZ B l a Z h) (k : ∀ i o, h.get? i = some o → h'.get? i = some o) : HandSPX.FlyingZ B l a Z h' := by
  obtain ⟨f1, f2, f3, oe, vs, T, oT, ts, g1, g2, g3, g4, g5, g6, g7, g8, g9⟩ := f
  exact ⟨fun i o z => k i o (f1 i o z), f2, Heap.FunFrames.of_keeps (fun i o z _ => ⟨o, k i o z, rfl⟩) f3, oe, vs, T, oT, ts, k _ _ g1, g2, g3, g4, g5, g6, k _ _ g7, g8, g9⟩
def wClauses (K : PySem.W.Frag) (i : Nat) (Wo : WX) (D : Ends) : List (List Value × (Addr → Value → Option Addr → TS)) → WX
  | [] => Wo
  | (cs, ts) :: r => fun cls d σ H => ∃ b, PySem.W.exmAny K cls cs = some b ∧
      (b = true → ∀ a, H a = none → ts a cls d { nx := fun σ' H' => D.nx (σ'.set i none) H', bk := fun σ' H' => D.bk (σ'.set i none) H', ct := fun σ' H' => D.ct (σ'.set i none) H', rt := D.rt } (σ.set i (some (.ref a))) H) ∧ (b = false → wClauses K i Wo D r cls d σ H)
inductive Clauses (X : Cx) (n : Str) : List ExceptHandler → List (List Value × (Addr → Value → Option Addr → TS)) → Prop
  | nil : Clauses X n [] []
  | cons {t : Expr} {cs : List Value} {ts : Addr → Value → Option Addr → TS} {b0 : Stmt} {su : List Stmt} {p : Pos} {hs : List ExceptHandler} {l : List (List Value × (Addr → Value → Option Addr → TS))} (kd : Kinds X t cs)
      (run : ∀ (a : Addr) (oe : Obj) (cls : Value) (d : Option Addr) (pn : List (Addr × Obj)), Zc cls d oe → (∃ vs, oe.data = .fields vs) → PSs (X.suite a ((a, oe) :: pn)) (b0 :: su) (ts a cls d)) (r : Clauses X n hs l) :
      Clauses X n (.ExceptHandler (some t) (some n) (b0 :: su) p :: hs) ((cs, ts) :: l)
section
variable {X : Cx} {n : Str} {i : Nat} {body : List Stmt} {h0 : ExceptHandler} {hs : List ExceptHandler} {l : List (List Value × (Addr → Value → Option Addr → TS))} {pos : Pos} {tb : WX → TS} {Wo : WX}
theorem ps_try_clauses (st : X.stack = X.env :: X.outer) (fr : X.env.frame = some X.env.locals) (ndN : X.N.Nodup) (atN : X.N[i]? = some n) (lc : X.env.kindOf n = some .local) (tk : Takes X Wo)
    (hb : ∀ (W : WX) (pn : List (Addr × Obj)) (xe : Value → Shared → Prop), Takes (X.tr pn xe) W → PassesOwn (model X.prog X.w) X.A X.env xe → PSs (X.tr pn xe) body (tb W))
    (hh : Clauses X n (h0 :: hs) l) : PS X (.Try body (h0 :: hs) [] [] pos) (fun D σ H => tb (wClauses X.K i Wo D l) D σ H) := by
  refine ⟨fun pins s σ H D I h => ?_⟩
  have okI := I.ok
  have frA : X.A.frames = some (X.env :: X.outer) := by rw [okI.frames, st]
  have locn : Loc X.env.scope n := .inl lc
  refine wpAny_Try_except (wpAny_mono ((hb (wClauses X.K i Wo D l) (X.pn ++ pins)
    (fun e z => wpAny (model X.prog X.w) X.A (noteFrame e X.env) (fun _ z => wpAny (model X.prog X.w) X.A (setFlight e none) (fun _ z => wpAny (model X.prog X.w) X.A (handleBy e X.env (h0 :: hs)) (SP X pins D) X.xe z) X.xe z) X.xe z)
    (fun u s' thrown => ?_) PassesOwn.looking).run [] s σ H D (I.toTry _) h) (fun fl s1 done => ?_) (fun _ _ z => z))
  · obtain ⟨a, B, sI, pins', σ', H', cls, d, rfl, Jt, gr, ups, sky, fra, eos, bare, wish⟩ := thrown
    have J : Inv X pins σ' H' sI := Jt.ofTry okI
    rw [show X.stack = X.env :: X.outer from st] at sky
    show wpAny (model X.prog X.w) X.A (noteFrame (.ref a) X.env) _ _ _
    refine Sky.land Zc.steady frA fr sky fun g0 air0 ups0 => ?_
    have isRec : ∀ {g : Heap} {o : Obj} {vs : Array Value}, g.FunFrames B (X.env :: X.outer) → g.get? a = some o → o.data = .fields vs → a ∉ frs (X.env :: X.outer) := fun {g o vs} ff e dd hm => by
      obtain ⟨_, o2, e2, no⟩ := ff.mem hm
      rw [e] at e2
      cases e2
      exact no _ dd
    obtain ⟨ob0, fv0, at0, z0, dt0⟩ := air0.there
    have nofr := isRec air0.2.2.1 at0 dt0
    have nL : a ≠ X.env.locals := fun z => nofr (List.mem_filterMap.mpr ⟨X.env, List.mem_cons_self, by rw [fr, z]⟩)
    have nF : a ∉ X.fs := fun hm => by
      obtain ⟨e, he, q⟩ := List.mem_filterMap.mp hm
      exact nofr (List.mem_filterMap.mpr ⟨e, List.mem_cons_of_mem _ he, q⟩)
    have walk : ∀ {hds : List ExceptHandler} {cl : List (List Value × (Addr → Value → Option Addr → TS))}, Clauses X n hds cl → wClauses X.K i Wo D cl cls d σ' H' → ∀ g : Heap, HandSPX.FlyingZ B (X.env :: X.outer) a (Zc cls d) g → sI.heap.UpToSlots g →
        wpAny (model X.prog X.w) X.A (handleBy (.ref a) X.env hds) (SP X pins D) X.xe { s' with heap := g } := by
      intro hds cl hk
      induction hk with
      | nil =>
        intro wsh g air upg
        refine wpAny_handleBy_nil ?_
        obtain ⟨k1, k2, k3, oe, vs, T, oT, ts2, c1, c2, c3, c4, c5⟩ := id air
        unfold PySem.passOn
        refine wpAny_bind (wpAny_field c1 c3 c4 ?_)
        rw [if_neg (show ¬ ((Value.ref T == Value.none) = true) from by simp)]
        have go : wpAny (model X.prog X.w) X.A (setFlight (.ref a) X.env.frame) (fun _ z => wpAny (model X.prog X.w) X.A (throw (.ref a) : Sem Flow) (SP X pins D) X.xe z) X.xe { s' with heap := g } := by
          rw [fr]
          refine HandSPX.setFlight_upZ air fun g2 held up2 => wpAny_throw (tk _ _ ⟨a, B, sI, pins, σ', H', cls, d, rfl, J, gr, upg.trans up2, .inr (.inr (by rw [st]; exact held)), fra, eos, bare, wsh⟩)
        first
          | exact wpAny_bind (wpAny_pure (wpAny_bind go))
          | exact wpAny_bind go
      | @cons t cs ts b0 su p hs2 l2 kd run r ih =>
        intro wsh g air upg
        obtain ⟨b, hb1, hyes, hno⟩ := wsh
        have Jg : Inv X pins σ' H' { s' with heap := g } := J.landed gr air.1 upg eos bare
        obtain ⟨obg, fvg, atg, zg, dtg⟩ := air.there
        have Sg := Jg.suite atg dtg fra nL nF
        have lkg : PySem.W.Looks (model X.prog X.w) g (typeOf (.ref a)) cls := fun A Q E s k q => wpAny_typeOf_ref (k _ _ atg) (by rw [zg.1]; exact q)
        refine wpAny_handleBy_cons (codeAny_handlers_test ?_) (by intro q; cases q)
        refine kd.test Sg lkg hb1 fun g1 k1 => ?_
        have air1 := flying_up air k1
        have upg1 : sI.heap.UpToSlots g1 := upg.trans (Heap.UpToSlots.of_keeps k1)
        cases b with
        | true =>
          refine codeAny_handlers_suite_as (HandSPX.lands_againZ air1 fun g2 air2 up2 => ?_)
          have J2 : Inv X pins σ' H' { s' with heap := g2 } := J.landed gr air2.1 (upg1.trans up2) eos bare
          obtain ⟨ob2, fv2, at2, z2, dt2⟩ := air2.there
          have S2 := J2.suite at2 dt2 fra nL nF
          refine store_ok (X := X.suite a ((a, ob2) :: (X.pn ++ pins))) (v := .ref a) S2 ndN atN locn rfl (fun s5 S5 => ?_) (.inr lc)
          refine wpAny_mono ((run a ob2 cls d (X.pn ++ pins) z2 ⟨_, dt2⟩).run [] s5 _ H' _ S5 (hyes rfl a fra)) (fun fl s6 fin => ?_) (fun _ _ z => False.elim z)
          have leave : ∀ {τ : L2.St} {G : Hp} {Q : Shared → Prop}, Inv (X.suite a ((a, ob2) :: (X.pn ++ pins))) [] τ G s6 → (∀ s7, Inv X pins (τ.set i none) G s7 → Q s7) →
              wpAny (model X.prog X.w) X.A (do bindName X.env n .none; unbindBehindTheSuite X.env n p) (fun _ s7 => Q s7) X.xe s6 := fun {τ G Q} S6 q => gone_ok (S6.unsuite okI) ndN atN lc q
          cases fl with
          | next =>
            obtain ⟨τ, G, S6, q6⟩ := fin
            exact leave S6 fun s7 J7 => ⟨_, _, J7, q6⟩
          | brk =>
            obtain ⟨τ, G, S6, q6⟩ := fin
            exact leave S6 fun s7 J7 => ⟨_, _, J7, q6⟩
          | cont =>
            obtain ⟨τ, G, S6, q6⟩ := fin
            exact leave S6 fun s7 J7 => ⟨_, _, J7, q6⟩
          | ret u =>
            obtain ⟨v6, τ, G, S6, r6, q6⟩ := fin
            exact leave S6 fun s7 J7 => ⟨_, _, _, J7, r6, q6⟩
        | false =>
          show wpAny _ X.A (handleBy (.ref a) X.env hs2) _ _ _
          exact ih (hno rfl) g1 air1 upg1
    exact walk hh wish g0 air0 (ups.trans ups0)
  · cases fl with
    | next =>
      obtain ⟨τ, G, S6, q6⟩ := done
      exact wpAny_execs_nil ⟨τ, G, S6.ofTry okI, q6⟩
    | brk =>
      obtain ⟨τ, G, S6, q6⟩ := done
      exact ⟨τ, G, S6.ofTry okI, q6⟩
    | cont =>
      obtain ⟨τ, G, S6, q6⟩ := done
      exact ⟨τ, G, S6.ofTry okI, q6⟩
    | ret u =>
      obtain ⟨v6, τ, G, S6, r6, q6⟩ := done
      exact ⟨v6, τ, G, S6.ofTry okI, r6, q6⟩
end
end HTr
namespace HTr
open PySem L2
variable {EX : WX}
abbrev XT := Addr → List (Str × V) → Prop
abbrev SpX := List L → (L → List L → Prop) → XT → Prop
abbrev MRX := S → (L → Bool → Prop) → XT → Prop
section
variable (K : PySem.W.Frag)
def spOfX (sp : SpX) : Sp := fun vs H Q E => Tb K H ∧ ∃ F ls A G GX, Same F H ∧ RLs K F H ls vs A ∧ A.Nodup ∧ (∀ a ∈ A, F a = none) ∧ sp ls G GX ∧
  (∀ r ls', G r ls' → ∀ v F' H' A' B, Same F' H' → RLs K F' H' ls' (pinV ls) A' → RL K F' H' r v B → (A' ++ B).Nodup → (∀ a ∈ A' ++ B, F' a = none) → Step K F H A F' H' (A' ++ B) → Q v H') ∧
  ∀ C fs, GX C fs → ∀ F' H' A' d, Same F' H' → Step K F H A F' H' A' → H' d = some (.xd fs) → E (.ref C) (some d) H'
def liftX (W : WX) (m : MRX) : TE := fun σ H Q => ∃ F S A G GX, Ok K F H S σ A ∧ m S G GX ∧
  (∀ l o, G l o → ∀ v F' H' B, RP K F H F' H' → RL K F' H' l v B → (o = true → B.Nodup ∧ ∀ b ∈ B, F' b = none ∧ H b = none) → Q v H') ∧
  ∀ C fs, GX C fs → ∀ F' H' d, RP K F H F' H' → H' d = some (.xd fs) → W (.ref C) (some d) σ H'
end
abbrev ofE (E : XK) : WX := fun cls d _ H => E cls d H
def endOfX (ls : List L) (G : L → List L → Prop) (GX : XT) : ET := { endOf ls G with ex := fun C fs _ => GX C fs }
section
variable {K : PySem.W.Frag}
theorem body_ofX {sp : SpX} {m : MS} {N : List Str} (hm : ∀ ls G GX, sp ls G GX → m (endOfX ls G GX) (start0 N.length ls)) {vs : List V} {H : Hp} {Q : VK} {E : XK} (h : spOfX K sp vs H Q E) :
    liftS K (ofE E) m { nx := fun _ H' => Q .non H', rt := Q } (L2.start N vs) H := by
  obtain ⟨tb, F, ls, A, G, GX, fh, hl, nd, nf, hsp, w, wx⟩ := h
  refine ⟨F, _, A, ⟨fh, CS.start0 hl, nd, nf, tb⟩, endOfX ls G GX, hm ls G GX hsp, ⟨fun F1 S1 σ1 H1 A1 k1 t1 q1 => ?_, fun _ _ _ _ _ _ _ z => z.elim, fun _ _ _ _ _ _ _ z => z.elim, fun F1 r S1 σ1 H1 A1 B v k1 h1 n1 f1 t1 q1 => ?_, fun F1 S1 σ1 H1 A1 C fs d k1 t1 hd q1 => wx C fs q1 F1 H1 A1 d k1.fh t1 hd⟩⟩
  · obtain ⟨ls', e, g⟩ := q1
    obtain ⟨B', a1, a2, a3⟩ := k1.cs.backs e
    refine w _ ls' g .non F1 H1 B' [] k1.fh a1 ⟨rfl, rfl⟩ (by rw [List.append_nil]; exact a2 k1.nd) (fun a ha => k1.nf a (a3 a (by simpa using ha))) (t1.sub fun a ha => .inl (a3 a (by simpa using ha)))
  · obtain ⟨ls', e, g⟩ := q1
    obtain ⟨B', a1, a2, a3⟩ := k1.cs.backs e
    refine w r ls' g v F1 H1 B' B k1.fh a1 h1 (RL.perm_nodup n1 (a2 k1.nd) a3) (fun a ha => ?_) (t1.sub fun a ha => .inl ?_)
    · rcases List.mem_append.mp ha with z | z
      · exact k1.nf a (a3 a z)
      · exact f1 a z
    · rcases List.mem_append.mp ha with z | z
      · exact List.mem_append_left _ (a3 a z)
      · exact List.mem_append_right _ z
section
variable {P : Program} {w : World} {mg : Str → Option Value} {base : Heap}
abbrev XCX (P : Program) (w : World) (K : PySem.W.Frag) (mg : Str → Option Value) (base : Heap) (N : List Str) (qual : Str) (st : Stmt) (f : Addr) (cdv : Value) (A : Around) (outer : List Env) (s : Shared) (H : Hp) (E : XK) : Cx :=
  cxOf (L2.CX P w) P w K mg base N qual (defScope st) f cdv A outer s H E
theorem fun_okX {x qual : Str} {st : Stmt} {f : Addr} {fd : FuncData} {N ps : List Str} {k : Nat} {sp : SpX} {m : MS} {dvs : List V} {kws : List (Str × V)} (F : FunD K x qual (defArgs st) (defBody st) (defScope st) dvs kws f fd) (Sc : FnScope N ps (defScope st)) (len : ∀ ls G GX, sp ls G GX → ls.length = ps.length)
    (hd : ∀ (cdv : Value) (A : Around) (outer : List Env) (s : Shared) (H : Hp) (E : XK), Room k (XCX P w K mg base N qual st f cdv A outer s H E).A → PSs (XCX P w K mg base N qual st f cdv A outer s H E) (defBody st) (liftS K (ofE E) m))
    (hm : ∀ ls G GX, sp ls G GX → m (endOfX ls G GX) (start0 N.length ls)) : FnOk P w K mg base (L2.CX P w) (k + 1) f fd ps (spOfX K sp) := by
  refine F.ok Sc (fun vs H Q E h => ?_) (fun cdv A outer s H vs Q E hr h => ⟨liftS K (ofE E) m, hd cdv A outer s H E hr, body_ofX hm h⟩)
  obtain ⟨_, F1, ls, A, G, GX, _, hl, _, _, hsp, _⟩ := h
  rw [hl.len, len ls G GX hsp]
theorem takesX {N : List Str} {qual : Str} {st : Stmt} {f : Addr} {cdv : Value} {A : Around} {outer : List Env} {s : Shared} {H : Hp} {E : XK} : Takes (XCX P w K mg base N qual st f cdv A outer s H E) (ofE E) := takes_of rfl rfl rfl rfl
theorem fnok_calm {k : Nat} {f : Addr} {fd : FuncData} {ps : List Str} {sp : SpX} (F : FnOk P w K mg base (L2.CX P w) k f fd ps (spOfX K sp)) : FnOk P w K mg base CX0 k f fd ps (spOf K fun ls G => sp ls G fun _ _ => False) := by
  have to : ∀ vs H Q E, spOf K (fun ls G => sp ls G fun _ _ => False) vs H Q E → spOfX K sp vs H Q (fun _ _ _ => False) := fun vs H Q E ⟨a0, F1, ls, A, G, a1, a2, a3, a4, a5, a6⟩ => ⟨a0, F1, ls, A, G, _, a1, a2, a3, a4, a5, a6, fun _ _ z => z.elim⟩
  refine ⟨fun vs H Q E h => F.len vs H Q _ (to vs H Q E h), fun A outer s H args us vs Q E hr e0 hb r h => codeAny_mono (F.run A outer s H args us vs Q _ hr e0 hb r (to vs H Q E h)) fun r s' hq => ?_⟩
  cases r with
  | error e =>
    obtain ⟨_, _, _, _, _, _, _, _, _, _, _, _, z⟩ := hq
    exact z.elim
  | ok fl => cases fl <;> exact hq
end
section
variable {X : Cx} {ws : List Nat}
def sAsgX (m : MRX) (g : MG) : MS := fun e S => m S (fun l o => o = true ∧ g l.tree S e.nx) fun C fs => e.ex C fs S
theorem spX_of {sp : SpX} {ls : List L} {ts : List T} {ws : List V} {H1 : Hp} {Q : VK} {E W : XK} {G : L → List L → Prop} {GX : XT} (el : ls = ts.map L.fz) (b : spOf K (fun ls' G2 => ls' = ls ∧ ∀ r bk, G r bk → G2 r bk) ws H1 Q E) (g : sp ls G GX)
    (wx : ∀ C fs, GX C fs → ∀ H' d, SameH K H1 H' → H' d = some (.xd fs) → W (.ref C) (some d) H') : spOfX K sp ws H1 Q W := by
  obtain ⟨b0, F2, ls2, A2, G2, b1, b2, b3, b4, ⟨b5, b6⟩, b7⟩ := b
  subst b5
  have eA : A2 = [] := by
    rw [el] at b2
    exact b2.fz_inv.1
  subst eA
  exact ⟨b0, F2, _, [], G, GX, b1, b2, b3, b4, g, fun r ls' q => b7 r ls' (b6 r ls' q), fun C fs q F' H' A' d fh' st hd => wx C fs q H' d ⟨⟨fun e n => st.ch e n (by simp), fun n => st.dom _ n⟩, st.tb⟩ hd⟩
theorem frz_ts (ls : List L) (dts : List T) : frz ls ++ dts.map L.fz = (L.trees ls ++ dts).map L.fz := by
  unfold frz
  rw [List.map_append]
theorem RP.more {F H F1 H1 H' : Hp} (r : RP K F H F1 H1) (hh : SameH K H1 H') : RP K F H F1 H' := ⟨r.hx.trans hh, r.ff, r.fh.trans hh.s, r.nw⟩
def rCallX (sp : SpX) (dts : List T) (m : MA) : MRX := fun S Q QX => m S fun ls o => sp (frz ls ++ dts.map L.fz) (fun r _ => outOk o ls r ∧ Q r true) QX
theorem lr_callX {e : Expr} {sp : SpX} {dts : List T} {dvs : List V} {m : MA} {E : XK} (hd : ∀ F, RTs K F dts dvs) (h : PE X e (tCall (spOfX K sp) dvs E (liftA K m))) : PE X e (liftX K (ofE E) (rCallX sp dts m)) := peW h fun σ H Q ⟨F, S, A, G, GX, k, q, w, wx⟩ =>
  ⟨F, S, A, _, k, q, fun ls o g vs F1 H1 B r1 h1 o1 => spX_of (E := E) (frz_ts ls dts) (callU_sp hd w ⟨rfl, fun r bk z => z⟩ r1 k.tb h1 o1) g fun C fs gx H' d hh hd => wx C fs gx F1 H' d (r1.more hh) hd⟩
def spErr (C : Addr) (W F : Str) : Sp := fun vs H Q _ => ∃ a v, vs = [.ref a, v] ∧ H a = some (exo a C none) ∧
  ∀ d, H d = none → d ≠ a → Q .non (upd (upd (upd H d (exd d [("word", .str W)])) a (exo a C (some d))) d (exd d [(F, v), ("word", .str W)]))
structure ErrC (K : PySem.W.Frag) (C : Addr) (F : Str) : Prop where
  ox : OexC K C
  nw : PySem.W.findIn K (.ref C) "word" = some none
  nf : PySem.W.findIn K (.ref C) F = some none
theorem err_ok {P : Program} {w : World} {mg : Str → Option Value} {base : Heap} {qual : Str} {st : Stmt} {f C : Addr} {fd : FuncData} {W F : Str} (Fd : FunD K "__init__" qual (defArgs st) (defBody st) (defScope st) [] [] f fd) (Sc : FnScope ["self", F] ["self", F] (defScope st)) (T : ErrC K C F)
    (vis : Vis (defScope st) "self" ∧ Vis (defScope st) F) (nn : (F == ("__debug__" : Str)) = false ∧ (F == ("__classdict__" : Str)) = false)
    (sh : ∃ (p1 p2 p3 p4 q1 q2 q3 q4 : Pos) (j : Nat), defBody st = [.Assign [.Attribute (.Name "self" p1) "word" p2] (.Constant (.str W) j p3) p4, .Assign [.Attribute (.Name "self" q1) F q2] (.Name F q3) q4]) : FnOk P w K mg base CX0 1 f fd ["self", F] (spErr C W F) := by
  obtain ⟨p1, p2, p3, p4, q1, q2, q3, q4, j, eb⟩ := sh
  refine Fd.ok Sc (fun vs H Q E ⟨a, v, e, _⟩ => by rw [e]; rfl) (fun cdv A outer s H vs Q E hr h => ?_)
  refine ⟨tSeq (tOst K "word" (tVar 0) (tC (.str W))) (tOst K F (tVar 0) (tVar 1)), ?_, ?_⟩
  · rw [eb]
    exact pss_cons (ps_ost (X := cxOf CX0 P w K mg base ["self", F] qual (defScope st) f cdv A outer s H E) (pe_var rfl vis.1) pe_str) (pss_one (ps_ost (X := cxOf CX0 P w K mg base ["self", F] qual (defScope st) f cdv A outer s H E) (pe_var rfl vis.1) (pe_var rfl vis.2 nn.1 nn.2)))
  · obtain ⟨a, v, e, ha, q⟩ := h
    subst e
    refine ⟨.ref a, rfl, a, C, rfl, T.ox, T.nw, .inl ⟨ha, fun dx hdx ne => ?_⟩⟩
    refine ⟨v, rfl, .ref a, rfl, a, C, rfl, T.ox, T.nf, .inr ⟨dx, _, upd_same, ?_, by simp, q dx hdx ne⟩⟩
    rw [upd_ne ne, upd_same]
def atomL : L → Option V
  | .fz t => atomV t
  | _ => none
def sRaise (C : Nat) (W F : Str) (m : MR) : MS := fun e S => m S fun l _ => ∃ u, atomL l = some u ∧ e.ex C [(F, u), ("word", .str W)] S
theorem ls_raise {st : Stmt} {C : Addr} {W F : Str} {m : MR} (h : PS X st (fun _ σ H => tMkO C (spErr C W F) [] (liftA K (aCons m aNil)) σ H fun cls d H' => EX cls d σ H')) : PS X st (liftS K EX (sRaise C W F m)) := psW h fun D σ H ⟨F0, S, A, k, e, q, c⟩ => by
  refine ⟨F0, S, A, fun ls _ => match ls with
    | [l] => ∃ u, atomL l = some u ∧ e.ex C [(F, u), ("word", .str W)] S
    | _ => False, k, q, fun ls o g vs F1 H1 B r1 h1 o1 => ?_⟩
  dsimp only at g
  split at g
  · rename_i l
    obtain ⟨u, eu, g⟩ := g
    obtain ⟨v, r, B1, C1, e1, e2, h2, h3⟩ := h1
    obtain ⟨e3, e4⟩ := h3
    subst e3 e4 e1
    have ev : v = u := by
      cases l with
      | fz t => exact RT.atom h2.2 eu
      | _ => cases eu
    subst ev
    refine ⟨by simp, fun a ha => ⟨a, v, rfl, upd_same, fun d hd ne => ⟨rfl, d, _, ?_, upd_same, ?_, ?_⟩⟩⟩
    · rw [upd_ne (Ne.symm ne), upd_same]
    · rw [← hd, upd_ne ne]
    · have hd1 : H1 d = none := by rw [← hd, upd_ne ne]
      have eH : upd (del (upd (upd (upd (upd H1 a (exo a C none)) d (exd d [("word", .str W)])) a (exo a C (some d))) d (exd d [(F, v), ("word", .str W)])) a) d (.xd [(F, v), ("word", .str W)]) = upd H1 d (.xd [(F, v), ("word", .str W)]) := by
        funext b
        by_cases h1 : b = d
        · subst h1; rw [upd_same, upd_same]
        · rw [upd_ne h1, upd_ne h1]
          by_cases h2 : b = a
          · subst h2; rw [del_same, ha]
          · rw [del_ne h2, upd_ne h1, upd_ne h2, upd_ne h1, upd_ne h2]
      rw [eH]
      have r2 := r1.trans (RP.new r1.fh (.xd [(F, v), ("word", .str W)]) hd1)
      exact c.ex F1 S σ _ A C _ d (k.rp r2) r2.step upd_same g
  · exact g.elim
end
end
end HTr
set_option maxHeartbeats 1000000
namespace HTr
open PySem L2 PySem.Spec PyProof.Rows
def tXfA (K : PySem.W.Frag) (a : Addr) (cls : Value) (d : Option Addr) (f : Str) (te : TE) : TE := fun σ H Q => ∃ C, XfC K C ∧ PySem.W.findIn K (.ref C) f = some none ∧ tXf a cls d C f te σ H Q
theorem pe_xfA {X : Cx} {a : Addr} {oe : Obj} {cls : Value} {d : Option Addr} {pn : List (Addr × Obj)} {e : Expr} {te : TE} {pos : Pos} {n : Str} (hz : Zc cls d oe) (hf : ∃ vs, oe.data = .fields vs) (he : PE (X.suite a ((a, oe) :: pn)) e te)
    (hb : attributeBase e n X.env (eval e X.env) = eval e X.env := by rfl) : PE (X.suite a ((a, oe) :: pn)) (.Attribute e n pos) (tXfA X.K a cls d n te) :=
  ⟨fun pins s σ H Q I ⟨C, h1, h2, h3⟩ => (pe_xf (X := X) (C := C) h1 h2 hz hf he hb).run pins s σ H Q I h3⟩
def wAt (K : PySem.W.Frag) : List (List Value × Str) → Value → Option Addr → Hp → VK → Prop
  | [], _, _, _, _ => False
  | (cs, F) :: r, cls, d, H, Q => ∃ b, PySem.W.exmAny K cls cs = some b ∧
      (b = true → ∃ C dd fs w v, cls = .ref C ∧ d = some dd ∧ H dd = some (.xd fs) ∧ XfC K C ∧ PySem.W.findIn K (.ref C) "word" = some none ∧ PySem.W.findIn K (.ref C) F = some none ∧ fs.lookup ("word" : Str) = some w ∧ fs.lookup F = some v ∧
        ∀ p, H p = none → Q (.ref p) (upd H p (.tup [w, v]))) ∧
      (b = false → wAt K r cls d H Q)
def TTat (K : PySem.W.Frag) (cl : List (List Value × Str)) : (XK → Hp → VK → Prop) → Hp → VK → Prop := fun tl H Q => ∃ R : VK, (∀ v H', R v H' → Q .non H') ∧ tl (fun cls d H' => wAt K cl cls d H' Q) H R
inductive AtHs (sg : Scope) (mg : Str → Option Value) : List ExceptHandler → List (List Value × Str) → Prop
  | nil : AtHs sg mg [] []
  | cons {t : Expr} {cs : List Value} {F : Str} {p1 p2 p3 p4 p5 p6 p7 p8 : Pos} {k : Nat} {hs : List ExceptHandler} {l : List (List Value × Str)} (kd : ∀ X : Cx, X.env.scope = sg → X.mg = mg → Kinds X t cs) (r : AtHs sg mg hs l) :
      AtHs sg mg (.ExceptHandler (some t) (some "e") [.Assign [.Name "_law_found" p1] (.Tuple [.Attribute (.Name "e" p2) "word" p3, .Attribute (.Name "e" p4) F p5] k p6) p7] p8 :: hs) ((cs, F) :: l)
def tsAt (K : PySem.W.Frag) (F : Str) (a : Addr) (cls : Value) (d : Option Addr) : TS := tAsg (tTup (tCons (tXfA K a cls d "word" (tVar 2)) (tCons (tXfA K a cls d F (tVar 2)) tNil))) (gName 1)
theorem takes_len {X : Cx} {W : WX} (t : Takes X W) : Takes X fun cls d σ H => σ.length = X.N.length → W cls d σ H := fun u s' ⟨a, B, sI, pins, σ, H, cls, d, e, I, x⟩ => t u s' ⟨a, B, sI, pins, σ, H, cls, d, e, I, by
  obtain ⟨x1, x2, x3, x4, x5, x6, x7⟩ := x
  exact ⟨x1, x2, x3, x4, x5, x6, x7 I.len⟩⟩
abbrev Nat' : List Str := ["_law_ask", "_law_found", "e"]
theorem at_clauses {sg : Scope} {mg : Str → Option Value} {hs : List ExceptHandler} {l : List (List Value × Str)} (h : AtHs sg mg hs l) (X : Cx) (e1 : X.env.scope = sg) (e2 : X.mg = mg) (e3 : X.N = Nat') (fn : ∀ x, X.fn x = true) (kn : sg.kind = .function)
    (l1 : sg.names.lookup ("_law_found" : Str) = some .local) (l2 : sg.names.lookup ("e" : Str) = some .local) : Clauses X "e" hs (l.map fun q => (q.1, tsAt X.K q.2)) := by
  induction h with
  | nil => exact .nil
  | @cons t cs F p1 p2 p3 p4 p5 p6 p7 p8 k hs l kd r ih =>
    refine .cons (kd X e1 e2) (fun a oe cls d pn hz hf => ?_) ih
    have vis : Vis X.env.scope "e" := .inl (by rw [e1]; exact l2)
    have pe : ∀ p, PE (X.suite a ((a, oe) :: pn)) (.Name "e" p) (tVar 2) := fun p => pe_var (X := X.suite a ((a, oe) :: pn)) (by show X.N[2]? = _; rw [e3]; rfl) vis
    exact pss_one (ps_set (X := X.suite a ((a, oe) :: pn)) (i := 1) (x := "_law_found") (by show X.N.Nodup; rw [e3]; decide) (by show X.N[1]? = _; rw [e3]; rfl) (.inl (by show X.env.scope.names.lookup _ = _; rw [e1]; exact l1)) (pe_tup (pa_cons (pe_xfA hz hf (pe p2)) (pa_cons (pe_xfA hz hf (pe p4)) pa_nil))) (hf := .inl (fn _)))
theorem at_wish {K : PySem.W.Frag} {D : Ends} {Q : VK} (hD : ∀ σ v H, σ[1]? = some (some v) → Q v H → D.nx σ H) {cls : Value} {d : Option Addr} {H : Hp} {x y z : Option V} : ∀ {l : List (List Value × Str)}, wAt K l cls d H Q →
    wClauses K 2 (fun _ _ _ _ => False) D (l.map fun q => (q.1, tsAt K q.2)) cls d [x, y, z] H
  | [], h => h
  | (cs, F) :: r, ⟨b, h1, h2, h3⟩ => by
    refine ⟨b, h1, fun hb a ha => ?_, fun hb => at_wish hD (h3 hb)⟩
    obtain ⟨C, dd, fs, w, v, e1, e2, e3, xf, n1, n2, k1, k2, q⟩ := h2 hb
    refine ⟨C, xf, n1, .ref a, rfl, rfl, e1, dd, fs, w, e2, e3, k1, C, xf, n2, .ref a, rfl, rfl, e1, dd, fs, v, e2, e3, k2, ?_⟩
    refine ⟨(by show 2 ≤ sizeLine; decide), fun p hp => ?_⟩
    exact hD _ _ _ rfl (q p hp)
theorem pe_up {X : Cx} {e : Expr} {t : TE} (he : PE X e t) : PE X e (fun σ H Q => ∃ R : VK, (∀ v H', R v H' → Q v H') ∧ t σ H R) :=
  ⟨fun pins s σ H Q I ⟨R, hR, h⟩ => wpAny_mono (he.run pins s σ H R I h) (fun v s1 ⟨x, H1, I1, r1, q1⟩ => ⟨x, H1, I1, r1, hR _ _ q1⟩) fun _ _ z => z⟩
def tbAt (f c' : Addr) (q : Str) (tl : XK → Hp → VK → Prop) (W : WX) : TS := fun D σ H => ∃ (Ech : XK) (R : VK), (∀ cls d σ' H', Ech cls d H' → σ'.length = 3 → W cls d σ' H') ∧ (∀ v H', R v H' → D.nx σ H') ∧ σ[0]? = some (some (.ref f)) ∧ H c' = some (LamX.CodeO c' q) ∧ tl Ech H R
theorem at_gives {X : Cx} {sg : Scope} {g : Addr} {cdg : Value} {q : Str} {h0 : ExceptHandler} {hs : List ExceptHandler} {l : List (List Value × Str)} {p1 p2 p3 p4 p5 p6 p7 p8 p9 : Pos} {j : Nat} (kn : sg.kind = .function) (l0 : sg.names.lookup ("_law_ask" : Str) = some .local)
    (l1 : sg.names.lookup ("_law_found" : Str) = some .local) (l2 : sg.names.lookup ("e" : Str) = some .local) (hh : AtHs sg X.mg (h0 :: hs) l) :
    LamX.GivesTo X Nat' "_law_at" sg g cdg [.Assign [.Name "_law_found" p1] (.Constant .none j p2) p3, .Try [.Expr (.Call (.Name "_law_ask" p4) [] [] p5) p6] (h0 :: hs) [] [] p7, .Return (some (.Name "_law_found" p8)) p9] "_law_ask" q (TTat X.K l) := by
  intro f c' s H Q tl act hc h
  let Z := (cxOf C8.CX0 X.prog X.w X.K X.mg X.base Nat' "_law_at" sg g cdg X.A X.stack s H C8.E0).nox
  have cl : Clauses Z "e" (h0 :: hs) (l.map fun q => (q.1, tsAt X.K q.2)) := at_clauses hh Z rfl rfl rfl (fun _ => rfl) kn l1 l2
  refine ⟨tSeq (tAsg (tC .non) (gName 1)) (tSeq (fun D σ H => tbAt f c' q tl (wClauses X.K 2 (fun _ _ _ _ => False) D (l.map fun q => (q.1, tsAt X.K q.2))) D σ H) (tRet (tVar 1))), ?_, ?_⟩
  · refine pss_cons (ps_set (X := Z) (i := 1) (x := "_law_found") (show Nat'.Nodup by decide) rfl (.inl l1) pe_non (hf := .inl rfl)) (pss_cons ?_ (pss_one (ps_ret (pe_var (X := Z) rfl (.inl l1)))))
    refine ps_try_clauses (X := Z) (n := "e") (i := 2) (tb := tbAt f c' q tl) (Wo := fun _ _ _ _ => False) rfl rfl (show Nat'.Nodup by decide) rfl l2 LamX.takes0 (fun W pn xe tk _ => ?_) cl
    refine ⟨fun pins s' σ H' D I z => ?_⟩
    obtain ⟨Ech, R, hW, hR, h1, h2, h3⟩ := z
    have hp := act (fun cls d σ H => σ.length = 3 → W cls d σ H) pn xe Ech p4 p5 (takes_len tk) hW
    have hx := pss_one (ps_expr (pos := p6) (pe_up hp))
    refine hx.run pins s' σ H' D I ?_
    exact ⟨R, hR, h1, h2, h3⟩
  · obtain ⟨R, hR, h⟩ := h
    refine ⟨fun cls d H' => wAt X.K l cls d H' Q, R, fun cls d σ' H' hw len => ?_, fun v H' hv => ⟨.non, rfl, hR v H' hv⟩, rfl, hc, h⟩
    obtain ⟨x, y, z, rfl⟩ : ∃ x y z, σ' = [x, y, z] := match σ', len with | [x, y, z], _ => ⟨x, y, z, rfl⟩
    exact at_wish (Q := Q) (D := { nx := tRet (tVar 1) { nx := fun _ H' => Q .non H', rt := Q }, rt := Q }) (fun σ v H e qv => ⟨v, e, qv⟩) hw
end HTr
set_option maxHeartbeats 1000000
namespace HTr
open PySem L2 PySem.Spec PyProof.Rows
structure LamF (K : PySem.W.Frag) (x0 : Str) (c P : Addr) : Prop where
  mem : x0 ∈ lamNames
  tab : tabOf K x0 = some P
  one : ∀ x ∈ lamNames, tabOf K x = some P → x = x0
section
variable {X : Cx} {pins : List (Addr × Obj)} {σ : L2.St} {H : Hp} {s : Shared}
theorem lam_made {x0 : Str} {c P : Addr} {params : Arguments} {body : Expr} {scope : Scope} {pos : Pos} {E : Value → Shared → Prop} {Q : Value → Shared → Prop} (I : Inv X pins σ H s) (TB : LamX.TabB X.base X.mg c P) (hcode : X.env.code = .ref c)
    (lf : LamF X.K x0 c P) (hq : X.env.qual ++ "<lambda>" = x0 ++ ".<locals>." ++ "<lambda>") (t0 : Tb X.K H) (hdef : defaultsOf params X.env = ([], [])) (hfree : ∀ y ∈ scope.names, y.2 = .free → ∃ c, X.env.cells.lookup y.1 = some c)
    (h : ∀ (f cc : Addr) (pm ctv : Value) (H1 : Hp) (z : Shared), Inv X pins σ H1 z → SameH X.K H H1 → z.heap.get? f = some (PySem.W.kla_obj "<lambda>" (X.env.qual ++ "<lambda>") params body scope (cloFrom X.env.cells scope.names []) pm cc ctv) →
      H1 f = none → f ∉ frs X.stack → H1 cc = some (LamX.CodeO cc (X.env.qual ++ "<lambda>")) → Q (.ref f) z) : wpAny (model X.prog X.w) X.A (eval (.Lambda params body scope pos) X.env) Q E s := by
  obtain ⟨us, aP, trip, among⟩ := t0 x0 lf.mem P lf.tab
  rw [← hq] at among
  refine PySem.W.kla_eval hdef ?_
  have inP : s.heap.get? P = some { cls := .none, data := .fields us } := I.hok P _ aP
  have offF : ∀ f, s.heap.objs.size ≤ f → f ∉ frs X.stack := fun f le m => by
    rcases List.mem_cons.mp (I.stkSub _ m) with e | e
    · have lt := I.lt
      rw [← e] at lt
      exact Nat.lt_irrefl _ (Nat.lt_of_lt_of_le lt le)
    · exact I.nofs le e
  cases found : codeAmong pos us.toList with
  | some cv =>
    obtain ⟨cc, e, hco⟩ := among pos cv found
    subst e
    refine PySem.W.kla_makeFunctionHit (mg := X.mg) (c := c) (P := P) (ps := us) (closure_ok hfree) I.ok.glob (I.mod.glob.keeps I.bk) hcode (TB.code.keeps I.bk) inP trip found (TB.bm.keeps I.bk) fun ctv g tk more le => ?_
    have J : Inv X pins σ H { s with heap := g.push (PySem.W.kla_obj "<lambda>" (X.env.qual ++ "<lambda>") params body scope (cloFrom X.env.cells scope.names []) ((X.mg "__name__").getD .none) cc ctv), toks := tk } :=
      I.kept fun b o e => Heap.get?_push_of_some _ (more b o e)
    exact h g.objs.size cc _ ctv H _ J (SameH.refl _) (Heap.get?_push_size _ rfl) (I.hok.fresh le) (offF _ le) hco
  | none =>
    refine PySem.W.kla_makeFunction (mg := X.mg) (c := c) (P := P) (ps := us) (closure_ok hfree) I.ok.glob (I.mod.glob.keeps I.bk) hcode (TB.code.keeps I.bk) inP trip found TB.gP (TB.bm.keeps I.bk) fun cc ctv g tk more ge lt rec newT => ?_
    obtain ⟨c2, oc, fv, tok, ec, hoc, hdt, hfv⟩ := rec
    cases ec
    have le : s.heap.objs.size ≤ g.objs.size := Nat.le_trans ge (Nat.le_of_lt lt)
    have freeC : H cc = none := I.hok.fresh ge
    have J := LamX.inv_table (t' := tk) (more := #[rawInt pos.line, rawInt pos.col, .ref cc]) (h' := g.push (PySem.W.kla_obj "<lambda>" (X.env.qual ++ "<lambda>") params body scope (cloFrom X.env.cells scope.names []) ((X.mg "__name__").getD .none) cc ctv))
      I aP (fun b o hb e => Heap.get?_push_of_some _ (more b o hb e)) (Heap.get?_push_of_some _ newT) ge ⟨oc, fv, tok, Heap.get?_push_of_some _ hoc, hdt, hfv⟩
    have kept : ∀ b o, H b = some o → NT o → upd (upd H P (.tbl (us ++ #[rawInt pos.line, rawInt pos.col, .ref cc]))) cc (LamX.CodeO cc (X.env.qual ++ "<lambda>")) b = some o := fun b o e n => by
      rw [upd_ne (ne_of_none e freeC), upd_ne fun z => n us (Option.some.inj (e.symm.trans (by rw [z]; exact aP)))]
      exact e
    have aList : (us ++ #[rawInt pos.line, rawInt pos.col, .ref cc]).toList = us.toList ++ [rawInt pos.line, rawInt pos.col, .ref cc] := by simp
    have nPc : P ≠ cc := ne_of_none aP freeC
    have same : SameH X.K H (upd (upd H P (.tbl (us ++ #[rawInt pos.line, rawInt pos.col, .ref cc]))) cc (LamX.CodeO cc (X.env.qual ++ "<lambda>"))) := by
      refine ⟨⟨fun e n => kept _ _ e n, fun {b} n => ?_⟩, fun t x hx P2 e2 => ?_⟩
      · by_cases h1 : b = cc
        · rw [h1, upd_same]; simp
        · rw [upd_ne h1]
          by_cases h2 : b = P
          · rw [h2, upd_same]; simp
          · rw [upd_ne h2]; exact n
      · by_cases hP : P2 = P
        · subst hP
          have ex := lf.one x hx e2
          subst ex
          refine ⟨_, by rw [upd_ne nPc, upd_same], by rw [aList]; exact PySem.TriplesOk_snoc _ _ _ _ trip, fun p2 cv hcv => ?_⟩
          rw [aList] at hcv
          rw [← hq]
          rcases LamX.among_app _ trip hcv with z | z
          · obtain ⟨c0, w1, w2⟩ := among p2 cv z
            exact ⟨c0, w1, kept _ _ w2 LamX.codeO_ne⟩
          · exact ⟨cc, z, upd_same⟩
        · obtain ⟨vs, a1, a2, a3⟩ := t x hx P2 e2
          refine ⟨vs, by rw [upd_ne (ne_of_none a1 freeC), upd_ne hP]; exact a1, a2, fun p2 cv hcv => ?_⟩
          obtain ⟨c0, w1, w2⟩ := a3 p2 cv hcv
          exact ⟨c0, w1, kept _ _ w2 LamX.codeO_ne⟩
    refine h g.objs.size cc _ ctv _ _ J same (Heap.get?_push_size _ rfl) ?_ (offF _ le) upd_same
    rw [upd_ne (Nat.ne_of_gt lt), upd_ne (Nat.ne_of_gt (Nat.lt_of_lt_of_le (Heap.lt_size inP) le))]
    exact I.hok.fresh le
end
def vTree : V → Option T
  | .non => some .non
  | .bl b => some (.bl b)
  | .int i => some (.int i)
  | .str x => some (.str x)
  | _ => none
theorem RT.vTree {K : PySem.W.Frag} {F : Hp} {v : V} {t : T} (h : HTr.vTree v = some t) : RT K F t v := by
  cases v <;> simp [HTr.vTree] at h <;> subst h <;> rfl
def Caught (K : PySem.W.Frag) (C : Addr) (F : Str) : List (List Value × Str) → Prop
  | [] => False
  | (cs, G) :: r => ∃ b, PySem.W.exmAny K (.ref C) cs = some b ∧ (b = true → G = F ∧ XfC K C ∧ PySem.W.findIn K (.ref C) "word" = some none ∧ PySem.W.findIn K (.ref C) F = some none) ∧ (b = false → Caught K C F r)
theorem Caught.wish {K : PySem.W.Frag} {C : Addr} {F : Str} {d : Addr} {H : Hp} {Q : VK} {fs : List (Str × V)} {w v : V} (hd : H d = some (.xd fs)) (k1 : fs.lookup ("word" : Str) = some w) (k2 : fs.lookup F = some v) (q : ∀ p, H p = none → Q (.ref p) (upd H p (.tup [w, v]))) :
    ∀ {l : List (List Value × Str)}, Caught K C F l → wAt K l (.ref C) (some d) H Q
  | [], h => h
  | (cs, G) :: r, ⟨b, h1, h2, h3⟩ => ⟨b, h1, fun hb => by
      obtain ⟨e, xf, n1, n2⟩ := h2 hb
      subst e
      exact ⟨C, d, fs, w, v, rfl, rfl, hd, xf, n1, n2, k1, k2, q⟩, fun hb => Caught.wish hd k1 k2 q (h3 hb)⟩
def rLam (fld : Addr → Option Str) (m : MRX) : MR := fun S Q => m S (fun _ _ => Q (.fz .non) true) fun C fs => ∃ F w v tw tv, fld C = some F ∧ fs.lookup ("word" : Str) = some w ∧ fs.lookup F = some v ∧ vTree w = some tw ∧ vTree v = some tv ∧ Q (.fz (.tup [tw, tv])) true
section
variable {X : Cx}
theorem lr_lam {x0 : Str} {g c P : Addr} {k : Nat} {pg : Arguments} {bg : List Stmt} {sg : Scope} {dV kV doc pm cdv ct oc : Value} {an od : Option Addr} {osl : Array (Option Value)} {params : Arguments} {body : Expr} {scope : Scope} {m : MRX} {p lpos pos : Pos} {l : List (List Value × Str)} {fld : Addr → Option Str}
    (hg : Gl X "_law_at") (hm : X.mg "_law_at" = some (.ref g)) (hk : PySem.W.keepIn X.K (.ref g) = true) (lk : X.K.lookup g = some ⟨oc, od, .func (PySem.W.fnOf "_law_at" "_law_at" pg bg sg dV kV doc pm an cdv ct), osl⟩) (hcg : PySem.W.codeIn X.K cdv "_law_at" = true)
    (hb : L2.Binds X.K (PySem.W.fnOf "_law_at" "_law_at" pg bg sg dV kV doc pm an cdv ct) ["_law_ask"] []) (Sg : FnScope Nat' ["_law_ask"] sg) (hva : Vis sg "_law_ask") (hG : LamX.GivesTo X Nat' "_law_at" sg g cdv bg "_law_ask" (X.env.qual ++ "<lambda>") (TTat X.K l)) (hc : ∀ C F, fld C = some F → Caught X.K C F l)
    (TB : LamX.TabB X.base X.mg c P) (hcode : X.env.code = .ref c) (lf : LamF X.K x0 c P) (hq : X.env.qual ++ "<lambda>" = x0 ++ ".<locals>." ++ "<lambda>") (hr : Room (k + 2) X.A) (L : LamX.LamS X.env.scope scope) (hdef : defaultsOf params X.env = ([], []))
    (hbind : ∀ (q : Str) (cl : List (Str × Addr)) (pm cv ctv : Value), bindArgs (PySem.W.kla_fn "<lambda>" q params body scope cl pm cv ctv) ⟨[], []⟩ = pure [])
    (hbody : ∀ (A : Around) (outer : List Env) (s : Shared) (H : Hp) (E : XK) (f cc : Addr), Room k (A.deeper (LamX.lamEnv X scope s.heap.objs.size f cc)) → PE (LamX.lamCx X A outer s H E scope f cc) body (liftX X.K (ofE E) m)) :
    PE X (.Call (.Name "_law_at" p) [.Lambda params body scope lpos] [] pos) (liftR X.K (rLam fld m)) := by
  refine ⟨fun pins s σ H Q I h => ?_⟩
  obtain ⟨F, S, A, G, ok, q, w⟩ := h
  refine wpAny_Call_Name_kw (ld_glob I hg hm ?_)
  refine PySem.W.callWith_K (h₀ := X.base) I.ok.mod.kin hk ?_ (by rfl) (by rfl)
  show wpAny _ _ (spliced ((false, eval (.Lambda params body scope lpos) X.env) :: backTo pos (starEach [] X.env))) _ _ s
  refine Calls.spliced_cons (lam_made I TB hcode lf hq ok.tb hdef (L.has I.ok) fun f cc pm2 ctv H1 z J hh hf free off hco => Calls.spliced_nil ⟨J.kIn, ?_⟩)
  have r0 : RP X.K F H F H1 := ⟨hh, Same.refl _, ok.fh.trans hh.s, fun _ n => .inl n⟩
  have tt : TTat X.K l (fun E H' Q' => liftX X.K (ofE E) m σ H' Q') H1 Q := by
    refine ⟨fun _ H' => Q .non H', fun _ _ z => z, F, S, A, _, _, ok.rp r0, q, fun l2 o g2 v F2 H2 B r2 _ _ => ?_, fun C fs g2 F2 H2 d r2 hd => ?_⟩
    · exact w _ _ g2 .non F2 H2 [] (r0.trans r2) ⟨rfl, rfl⟩ own_nil
    · obtain ⟨fd, wv, fv, tw, tv, e1, e2, e3, e4, e5, g3⟩ := g2
      refine (hc C fd e1).wish hd e2 e3 fun p2 hp2 => ?_
      have fp := Same.no r2.fh hp2
      refine w _ _ g3 (.ref p2) (upd F2 p2 (.tup [wv, fv])) (upd H2 p2 (.tup [wv, fv])) [] ((r0.trans r2).trans ⟨upd_freshH hp2, upd_fresh fp, same_upd r2.fh, fun a n => ?_⟩) ⟨rfl, p2, _, rfl, .inl (.inl upd_same), wv, _, rfl, RT.vTree e4, fv, _, rfl, RT.vTree e5, rfl⟩ own_nil
      by_cases hb : a = p2
      · subst hb; exact .inr hp2
      · rw [upd_ne hb] at n; exact .inl n
  have ran : codeAny (model X.prog X.w) X.A (.call (.ref g) ⟨[.ref f], []⟩) (CR C8.CX0 X.stack X.prog X.w H1 z Q C8.E0) z := by
    refine LamX.run_ofS (N := Nat') (ps := ["_law_ask"]) (us := [.ref f]) (vs := [.ref f]) lk hcg Sg hr J.env0 (hb z [.ref f] J.kIn rfl) (.cons rfl .nil) rfl fun hr2 => ?_
    obtain ⟨t, ht, hq2⟩ := hG f cc z H1 Q (fun E H' Q' => liftX X.K (ofE E) m σ H' Q') (fun W pn xe E p1 p2 tk hW => LamX.pe_act (i := 0) J L hf free off (hbind _ _ _ _ _) tk hW hr2 (fun A outer s H hr3 => hbody A outer s H E f cc hr3) rfl hva) hco tt
    exact ⟨t, ht.nox, hq2⟩
  refine wpAny_call (codeAny_mono ran fun r z2 got => ?_)
  cases r with
  | error e => exact (show False from got).elim
  | ok fl =>
    cases fl with
    | ret u => exact J.after got
    | next => exact False.elim got
    | brk => exact False.elim got
    | cont => exact False.elim got
end
end HTr
set_option maxHeartbeats 1000000
namespace HTr
open PySem L2 PySem.Spec PyProof.Rows
def lamB (K : PySem.W.Frag) (ns : List Str) : Bool := lamNames.all fun y => match PySem.W.tabIn K y with
  | none => true
  | some q => ns.contains y && ((K.lookup q.2).isNone && lamNames.all fun z => z == y || !(tabOf K z == some q.2))
def lamOn (K : PySem.W.Frag) (y : Str) : Bool := (PySem.W.tabIn K y).isSome
theorem lamB_at {K : PySem.W.Frag} {ns : List Str} (h : lamB K ns = true) {y : Str} (hy : y ∈ lamNames) {c P : Addr} (e : PySem.W.tabIn K y = some (c, P)) : y ∈ ns ∧ K.lookup P = none ∧ ∀ z ∈ lamNames, tabOf K z = some P → z = y := by
  have q := List.all_eq_true.mp h y hy
  rw [e] at q
  simp only [Bool.and_eq_true] at q
  obtain ⟨q1, q2, q3⟩ := q
  refine ⟨List.contains_iff_mem.mp q1, Option.isNone_iff_eq_none.mp q2, fun z hz ez => ?_⟩
  have w := List.all_eq_true.mp q3 z hz
  rcases Bool.or_eq_true_iff.mp w with w | w
  · exact eq_of_beq w
  · rw [ez] at w
    simp at w
theorem tabOf_in {K : PySem.W.Frag} {y : Str} {P : Addr} (e : tabOf K y = some P) : ∃ c, PySem.W.tabIn K y = some (c, P) := by
  unfold tabOf at e
  cases q : PySem.W.tabIn K y with
  | none => rw [q] at e; cases e
  | some r =>
    rw [q] at e
    cases e
    exact ⟨r.1, rfl⟩
theorem lamF_of {K : PySem.W.Frag} {ns : List Str} (h : lamB K ns = true) {y : Str} (hy : y ∈ lamNames) {c P : Addr} (e : PySem.W.tabIn K y = some (c, P)) : LamF K y c P :=
  ⟨hy, by unfold tabOf; rw [e]; rfl, (lamB_at h hy e).2.2⟩
def csOf (K : PySem.W.Frag) : List (Addr × Addr) := lamNames.filterMap (PySem.W.tabIn K)
theorem csOf_mem {K : PySem.W.Frag} {q : Addr × Addr} (h : q ∈ csOf K) : ∃ y ∈ lamNames, PySem.W.tabIn K y = some q := List.mem_filterMap.mp h
theorem tb_start {K : PySem.W.Frag} {H : Hp} (h : ∀ q ∈ csOf K, H q.2 = some (.tbl #[])) : Tb K H := fun x hx P e => by
  obtain ⟨c, e2⟩ := tabOf_in e
  exact LamX.TabS.nil (h (c, P) (List.mem_filterMap.mpr ⟨x, hx, e2⟩))
theorem code_of {K : PySem.W.Frag} {y : Str} {f c P : Addr} {fd : FuncData} {oc : Value} {od : Option Addr} {sl : Array (Option Value)} (e : PySem.W.tabIn K y = some (c, P)) (g : PySem.W.nsIn K mainGlobals y = some (some (.ref f))) (l : K.lookup f = some ⟨oc, od, .func fd, sl⟩) : fd.code = .ref c := by
  unfold PySem.W.tabIn at e
  rw [g] at e
  dsimp only at e
  rw [l] at e
  dsimp only at e
  split at e
  · rename_i c2 hc
    split at e
    · split at e
      · cases e
        exact hc
      · cases e
    · cases e
  · cases e
section
variable {P : Program} {w : World} {K : PySem.W.Frag} {mg : Str → Option Value} {base : Heap}
theorem fun_okL {x qual : Str} {st : Stmt} {f c : Addr} {fd : FuncData} {N ps : List Str} {k : Nat} {sp : SpT} {m : MS} {dvs : List V} {kws : List (Str × V)} (F : FunD K x qual (defArgs st) (defBody st) (defScope st) dvs kws f fd) (hc : fd.code = .ref c) (Sc : FnScope N ps (defScope st)) (len : ∀ ls G, sp ls G → ls.length = ps.length)
    (hd : ∀ (A : Around) (outer : List Env) (s : Shared) (H : Hp) (E : XK), Room k (XC P w K mg base N qual st f (.ref c) A outer s H E).A → PSs (XC P w K mg base N qual st f (.ref c) A outer s H E) (defBody st) (liftS K NoX m))
    (hm : ∀ ls G, sp ls G → m (endOf ls G) (start0 N.length ls)) : FnOk P w K mg base CX0 (k + 1) f fd ps (spOf K sp) := by
  obtain ⟨oc, od, dV, kV, doc, pm, an, cdv, ct, osl, e, lk, hcd, _, _⟩ := F.ex
  subst e
  have ec : cdv = .ref c := hc
  subst ec
  refine fn_of lk hcd Sc (fun vs H Q E h => ?_) fun A outer s H vs Q E hr h => ⟨liftS K NoX m, (hd A outer s H E hr).nox, body_of hm h⟩
  obtain ⟨_, F1, ls, A, G, _, hl, _, _, hsp, _⟩ := h
  rw [hl.len, len ls G hsp]
end
theorem walk_lam {l : PySem.W.OpenLaw} {n k : Nat} {q : Program} {loose : List Str} {XP : (Str → Option Value) → Heap → Prop} {YP : World → Heap → Prop} {d : DefRec} {x : Str} {ns : List Str}
    (hn : l.most = some n) (hn2 : n ≤ sizeLine) (hdf : d.params.defaults = []) (hr : Room k callerA) (hrec : ns.all (fun y => (recsOf q).any fun e => e.name == y) = true)
    (F : ∀ (w : World) (mg : Str → Option Value) (fa : Addr) (h : Heap), YP w h → h.Ns mainGlobals mg → mg d.name = some (.ref fa) →
      ∃ (K : PySem.W.Frag) (fd : FuncData) (sp : Sp), K.In h ∧ lamB K ns = true ∧ (∀ (s : Shared) (u : Value), BindsTo s fd ⟨[u], []⟩ [(x, u)]) ∧
        (∀ (H : Hp) (a : Addr) (ns : List Int), Tb K H → SqL K H a (ns.map V.int) → sp [.ref a] H (fun v _ => v = .bl true) fun _ _ _ => False) ∧
        ∀ base : Heap, K.In base → base.Ns mainGlobals mg → (∀ y ∈ lamNames, ∀ c P, PySem.W.tabIn K y = some (c, P) → LamX.TabB base mg c P) → FnOk l.prog w K mg base CX0 k fa fd [x] sp) :
    PySem.W.WalkO q loose XP YP l.row.toRowW d [] (fun f vs => PySem.call f vs) := by
  refine Att.attach_callB hn hdf fun w s0 s1 mg mb fa o pm cd doc a vs zs G Y ho hd hcd hmg hobj hints hlen hbits hg => ?_
  obtain ⟨K, fd, sp, KX, lb, hb, hsp, hF⟩ := F w mg fa _ Y G.T.g hmg
  have each : ∀ r ∈ csOf K, PySem.W.CodeHd s1.heap r.1 r.2 ∧ s1.heap.get? r.2 = some (PySem.W.tabObj #[]) ∧ K.lookup r.2 = none := fun r hr2 => by
    obtain ⟨y, hy, e⟩ := csOf_mem hr2
    obtain ⟨y1, y2, _⟩ := lamB_at lb hy e
    have z := List.all_eq_true.mp hrec y y1
    obtain ⟨dd, hdd⟩ : ∃ dd, (recsOf q).find? (fun e => e.name == y) = some dd := by
      cases fnd : (recsOf q).find? (fun e => e.name == y) with
      | some dd => exact ⟨dd, rfl⟩
      | none =>
        obtain ⟨e1, m1, m2⟩ := List.any_eq_true.mp z
        exact absurd m2 (by simpa using List.find?_eq_none.mp fnd e1 m1)
    obtain ⟨t1, t2⟩ := PySem.W.tab_of G.T KX hdd e
    exact ⟨t1, t2, y2⟩
  exact LamX.law_callTs (cs := csOf K) KX G.T.g G.T.b G.T.builtins G.T.nolimit hg (fun r hr2 => (each r hr2).2.1) (fun r hr2 => (each r hr2).2.2) (fun r hr2 => (each r hr2).1) G.T.bmain hobj hints (Nat.le_trans hlen hn2) hr
    (fun base b1 b2 b3 => hF base b1 b2 fun y hy c P e => b3 (c, P) (List.mem_filterMap.mpr ⟨y, hy, e⟩)) hb (fun H hH hS => hsp H a zs (tb_start hH) hS) fun _ _ _ z => z
end HTr
set_option maxHeartbeats 1000000
namespace HTr
open PySem L2
variable {EX : WX}
def oexB (K : PySem.W.Frag) (C : Addr) : Bool :=
  (match K.lookup C with
  | some ⟨.type "type", _, .cls cd, sl⟩ => (match cd.mro, sl.toList with
    | .ref C' :: bm, [_, _, _, _, some (.builtin n), _] => C' == C && (n == "ValueError.__new__" && (!cd.hasDel && (cd.hasDict && PySem.HandSPX.refsVE bm)))
    | _, _ => false)
  | _ => false) &&
  (decide (PySem.W.findIn K (.ref C) "__setattr__" = some (some (.builtin "object.__setattr__"))) && (decide (PySem.W.subIn K (.ref C) (.type "BaseException") = some true) && (decide (PySem.W.typeIn K (.ref C) = some (.type "type")) && PySem.W.keepIn K (.ref C))))
theorem oexB_ok {K : PySem.W.Frag} {C : Addr} (h : oexB K C = true) : OexC K C := by
  unfold oexB at h
  simp only [Bool.and_eq_true, decide_eq_true_eq] at h
  obtain ⟨h1, h2, h3, h4, h5⟩ := h
  refine ⟨?_, h2, h3, h4, h5⟩
  split at h1
  · rename_i dd cd sl ho
    split at h1
    · rename_i C' bm k0 k1 k2 k3 n k5 hm hs
      simp only [Bool.and_eq_true, beq_iff_eq, Bool.not_eq_true'] at h1
      obtain ⟨e1, e2, e3, e4, e5⟩ := h1
      subst e1 e2
      obtain ⟨nm, bs, mro, ns, qn, hd, sn, sub, ab, col, dl⟩ := cd
      dsimp only at hm e3 e4
      subst hm e3 e4
      obtain ⟨sl⟩ := sl
      simp only at hs
      subst hs
      exact ⟨nm, qn, ns, bs, bm, sn, sub, ab, col, dd, k0, k1, k2, k3, k5, ho, e5⟩
    · cases h1
  · cases h1
def noB (K : PySem.W.Frag) (C : Addr) (f : Str) : Bool := decide (PySem.W.findIn K (.ref C) f = some none)
def errB (K : PySem.W.Frag) (C : Addr) (F : Str) : Bool := oexB K C && (noB K C "word" && (noB K C F && (decide (PySem.W.findIn K (.ref C) "__init__" = some (some (.ref (He.ma K C "__init__")))) && decide (PySem.W.typeIn K (.ref (He.ma K C "__init__")) = some (.type "function")))))
structure Err (P : Program) (w : World) (K : PySem.W.Frag) (mg : Str → Option Value) (base : Heap) (C : Addr) (W F : Str) : Prop where
  ex : ∃ f fd, ErrC K C F ∧ PySem.W.findIn K (.ref C) "__init__" = some (some (.ref f)) ∧ PySem.W.typeIn K (.ref f) = some (.type "function") ∧ FnOk P w K mg base CX0 1 f fd ["self", F] (spErr C W F) ∧ Binds K fd ["self", F] []
  gl : mg W = some (.ref C)
theorem err_mk {P : Program} {w : World} {K : PySem.W.Frag} {mg : Str → Option Value} {base : Heap} {C : Addr} {W F : Str} {fd : FuncData} (h : errB K C F = true) (gl : mg W = some (.ref C)) (ok : ErrC K C F → FnOk P w K mg base CX0 1 (He.ma K C "__init__") fd ["self", F] (spErr C W F)) (bd : Binds K fd ["self", F] []) : Err P w K mg base C W F := by
  unfold errB at h
  simp only [Bool.and_eq_true, decide_eq_true_eq] at h
  obtain ⟨h1, h2, h3, h4, h5⟩ := h
  have ec : ErrC K C F := ⟨oexB_ok h1, of_decide_eq_true h2, of_decide_eq_true h3⟩
  exact ⟨⟨_, fd, ec, h4, h5, ok ec, bd⟩, gl⟩
section
variable {X : Cx} {m : MR} {C : Addr} {W F : Str} {e : Expr} {p pos pos2 : Pos}
theorem ls_err (er : Err X.prog X.w X.K X.mg X.base C W F) (hc : X.calm = true) (tk : Takes X EX) (hr : Room 2 X.A) (hg : Gl X W) (ha : PA X [e] (liftA X.K (aCons m aNil)))
    (hdb : (W == ("__debug__" : Str)) = false := by decide) (he : starEach (e :: []) X.env = (false, eval e X.env) :: starEach [] X.env := by rfl) (hpl : (backTo pos (starEach [] X.env)).any (·.1) = false := by rfl) :
    PS X (.Raise (some (.Call (.Name W p) [e] [] pos)) none pos2) (liftS X.K EX (sRaise C W F m)) := by
  obtain ⟨⟨f, fd, ec, hI, hT, ok, bd⟩, gl⟩ := er
  exact ls_raise (ps_raise hc tk (pmk_oex ec.ox hI hT ok hr bd .nil (fun _ _ _ _ _ _ _ z => z.elim) hg gl ha hdb he hpl))
end
def fldOf (K : PySem.W.Frag) (C : Addr) : List (List Value × Str) → Option Str
  | [] => none
  | (cs, G) :: r => match PySem.W.exmAny K (.ref C) cs with
    | some true => if (xfB K C && (noB K C "word" && noB K C G)) = true then some G else none
    | some false => fldOf K C r
    | none => none
theorem fldOf_ok {K : PySem.W.Frag} {C : Addr} {F : Str} : ∀ {l : List (List Value × Str)}, fldOf K C l = some F → Caught K C F l
  | [], h => by cases h
  | (cs, G) :: r, h => by
    unfold fldOf at h
    split at h
    · rename_i e
      split at h
      · rename_i q
        cases h
        simp only [Bool.and_eq_true] at q
        exact ⟨true, e, fun _ => ⟨rfl, xfB_ok q.1, of_decide_eq_true q.2.1, of_decide_eq_true q.2.2⟩, fun z => by cases z⟩
      · cases h
    · rename_i e
      exact ⟨false, e, (fun z => by cases z), fun _ => fldOf_ok h⟩
    · cases h
theorem passL {X : Cx} {A : Around} {outer : List Env} {s : Shared} {H : Hp} {E : XK} {scope : Scope} {f cc : Addr} : Passes (L2.CX X.prog X.w) (LamX.lamCx X A outer s H E scope f cc) E := passes_call (takes_of rfl rfl rfl rfl) fun _ _ _ _ z => z
section
variable {X : Cx}
theorem lr_at {st : Stmt} {gA : Addr} {gD : FuncData} {x0 : Str} {c P : Addr} {k : Nat} {params : Arguments} {body : Expr} {scope : Scope} {m : MRX} {p lpos pos : Pos} {l : List (List Value × Str)} {fld : Addr → Option Str} (g : Gd X.K X.mg "_law_at" st ["_law_ask"] gA gD) (Sg : FnScope Nat' ["_law_ask"] (defScope st)) (hg : Gl X "_law_at")
    (hva : Vis (defScope st) "_law_ask") (hG : ∀ cdv, LamX.GivesTo X Nat' "_law_at" (defScope st) gA cdv (defBody st) "_law_ask" (X.env.qual ++ "<lambda>") (TTat X.K l)) (hc : ∀ C F, fld C = some F → Caught X.K C F l)
    (TB : LamX.TabB X.base X.mg c P) (hcode : X.env.code = .ref c) (lf : LamF X.K x0 c P) (hq : X.env.qual ++ "<lambda>" = x0 ++ ".<locals>." ++ "<lambda>") (hr : Room (k + 2) X.A) (hL : LamX.lamSB X.env.scope scope = true) (hdef : defaultsOf params X.env = ([], []))
    (hbind : ∀ (q : Str) (cl : List (Str × Addr)) (pm cv ctv : Value), bindArgs (PySem.W.kla_fn "<lambda>" q params body scope cl pm cv ctv) ⟨[], []⟩ = pure [])
    (hbody : ∀ (A : Around) (outer : List Env) (s : Shared) (H : Hp) (E : XK) (f cc : Addr), Room k (A.deeper (LamX.lamEnv X scope s.heap.objs.size f cc)) → PE (LamX.lamCx X A outer s H E scope f cc) body (liftX X.K (ofE E) m)) :
    PE X (.Call (.Name "_law_at" p) [.Lambda params body scope lpos] [] pos) (liftR X.K (rLam fld m)) := by
  obtain ⟨oc, od, dV, kV, doc, pm, an, cdv, ct, osl, e, lk, hcd, hD, _⟩ := g.fn.ex
  subst e
  exact lr_lam hg g.gl g.fn.kp lk hcd g.bd Sg hva (hG cdv) hc TB hcode lf hq hr (LamX.lamS_by hL) hdef hbind hbody
end
end HTr
namespace HTr
open PySem L2
section
variable {X : Cx} {K : PySem.W.Frag}
theorem named_of {sg : Scope} {mg : Str → Option Value} {x : Str} {c : Addr} (h1 : X.env.scope = sg) (h2 : X.mg = mg) (hk : sg.names.lookup x = some .globalImplicit) (gl : mg x = some (.ref c)) (db : (x == ("__debug__" : Str)) = false := by decide) : Named X x (.ref c) :=
  ⟨by show X.env.scope.names.lookup x = _; rw [h1]; exact hk, by rw [h2]; exact gl, db⟩
end
end HTr
namespace HTr
open PySem L2
def noTab (g : Addr → Option Obj) (a : Addr) : Option Obj := match g a with
  | some ⟨.none, _, .fields _, _⟩ => none
  | o => o
theorem noTab_le {g : Addr → Option Obj} {a : Addr} {o : Obj} (h : noTab g a = some o) : g a = some o := by
  unfold noTab at h
  split at h
  · cases h
  · exact h
theorem frG_le {g : Addr → Option Obj} {h : Heap} {as : List Addr} (hg : ∀ a o, g a = some o → h.get? a = some o) : (He.frG g as).In h := fun a o e => hg a o (He.frG_at as e)
end HTr
namespace HTr
open PySem L2
end HTr
set_option maxHeartbeats 1000000
namespace HTr
open PySem L2 PySem.Spec PyProof.Rows
def wWhy (K : PySem.W.Frag) : List (List Value) → Value → Option Addr → Hp → VK → Prop
  | [], _, _, _, _ => False
  | cs :: r, cls, d, H, Q => ∃ b, PySem.W.exmAny K cls cs = some b ∧
      (b = true → ∃ C dd fs w, cls = .ref C ∧ d = some dd ∧ H dd = some (.xd fs) ∧ XfC K C ∧ PySem.W.findIn K (.ref C) "word" = some none ∧ fs.lookup ("word" : Str) = some w ∧ ∀ p, H p = none → Q (.ref p) (upd H p (.tup [.non, w]))) ∧
      (b = false → wWhy K r cls d H Q)
def CaughtW (K : PySem.W.Frag) (C : Addr) : List (List Value) → Prop
  | [] => False
  | cs :: r => ∃ b, PySem.W.exmAny K (.ref C) cs = some b ∧ (b = true → XfC K C ∧ PySem.W.findIn K (.ref C) "word" = some none) ∧ (b = false → CaughtW K C r)
theorem CaughtW.wish {K : PySem.W.Frag} {C : Addr} {d : Addr} {H : Hp} {Q : VK} {fs : List (Str × V)} {w : V} (hd : H d = some (.xd fs)) (k1 : fs.lookup ("word" : Str) = some w) (q : ∀ p, H p = none → Q (.ref p) (upd H p (.tup [.non, w]))) :
    ∀ {l : List (List Value)}, CaughtW K C l → wWhy K l (.ref C) (some d) H Q
  | [], h => h
  | cs :: r, ⟨b, h1, h2, h3⟩ => ⟨b, h1, fun hb => by
      obtain ⟨xf, n1⟩ := h2 hb
      exact ⟨C, d, fs, w, rfl, rfl, hd, xf, n1, k1, q⟩, fun hb => CaughtW.wish hd k1 q (h3 hb)⟩
end HTr
namespace HTr
open PySem L2
def hookZ (as : List Addr) (fa : List He.Fa) (fn : List He.DefD) (ex : PySem.W.Frag → Bool) : PySem.W.Hook where
  α := Bool × He.AlD
  obs := fun s => (ex (He.frG (noTab s.heap.get?) as), He.obsD fa fn (He.frG (noTab s.heap.get?) as))
  val := fun _ => (true, He.valD fn)
  says := fun _ h => ∃ K : PySem.W.Frag, K.In h ∧ He.SaysD fa fn K ∧ ex K = true
  of := fun _ _ e => ⟨_, frG_le fun _ _ => noTab_le, (Prod.mk.inj e).2, (Prod.mk.inj e).1⟩
  keeps := fun _ _ _ ⟨K, hK, c⟩ k => ⟨K, PySem.W.Frag.In.keeps hK k, c⟩
def obZ (as : List Addr) (fa : List He.Fa) (fn : List He.DefD) (ex : PySem.W.Frag → Bool) (g : Addr → Option Obj) : Bool × He.AlD := (ex (He.frG (noTab g) as), He.obsD fa fn (He.frG (noTab g) as))
theorem obZ_eq {as : List Addr} {fa : List He.Fa} {fn : List He.DefD} {ex : PySem.W.Frag → Bool} {g : Addr → Option Obj} {s : Shared} (h : ∀ a, g a = s.heap.get? a) : obZ as fa fn ex g = (hookZ as fa fn ex).obs s := by
  have e : g = s.heap.get? := funext h
  rw [e] <;> rfl
end HTr
namespace W
open PySem L2 HTr
def top (i : Nat) : Stmt := PySem.Challenge.pw_wardweb_k05_texts_of_no_web.main.body.getD i (.Pass ⟨0, 0, 0, 0⟩)
abbrev st_is_colour : Stmt := (top 16)
abbrev st_is_mark : Stmt := (top 17)
abbrev st_Web_str : Stmt := (inClass (top 18) 3)
abbrev st_number_in : Stmt := (top 19)
abbrev st_law_box : Stmt := (top 23)
abbrev st_law_take : Stmt := (top 24)
abbrev st_law_unlike : Stmt := (top 28)
abbrev st_law_words : Stmt := (top 33)
abbrev st_law_number_in : Stmt := (top 34)
abbrev st_Web_init : Stmt := (inClass (top 18) 0)
abbrev st_tie_in : Stmt := (top 20)
abbrev st_law_one : Stmt := (top 25)
abbrev st_law_tie_in : Stmt := (top 35)
abbrev st_law_hue : Stmt := (top 29)
abbrev st_law_sign : Stmt := (top 30)
abbrev st_law_wrong_word : Stmt := (top 36)
abbrev st_law_bent_words : Stmt := (top 37)
abbrev st_read_web_x : Stmt := (top 21)
abbrev st_law_same : Stmt := (top 26)
abbrev st_law_arrow : Stmt := (top 31)
abbrev st_law_web_c : Stmt := (top 32)
abbrev st_law : Stmt := (top 38)
abbrev st_BadText_init : Stmt := (inClass (top 7) 0)
abbrev st_law_at : Stmt := (top 27)
abbrev atl (CBadArrow CBadMark CBadText CBadStrike CBadSize CBadPoint CBadNumber CTooMany : Nat) : List (List Value × Str) := [([.ref CBadArrow, .ref CBadMark, .ref CBadText, .ref CBadStrike], "at"), ([.ref CBadSize, .ref CBadPoint, .ref CBadNumber], "number"), ([.ref CTooMany], "bound")]
def dd_is_colour : He.DefD := ⟨("is_colour", none), "is_colour", "is_colour", defArgs st_is_colour, defBody st_is_colour, defScope st_is_colour, [], []⟩
def dd_is_mark : He.DefD := ⟨("is_mark", none), "is_mark", "is_mark", defArgs st_is_mark, defBody st_is_mark, defScope st_is_mark, [], []⟩
def dd_Web_str : He.DefD := ⟨("Web", some "__str__"), "__str__", "Web.__str__", defArgs st_Web_str, defBody st_Web_str, defScope st_Web_str, [], []⟩
def dd_number_in : He.DefD := ⟨("number_in", none), "number_in", "number_in", defArgs st_number_in, defBody st_number_in, defScope st_number_in, [], []⟩
def dd_law_box : He.DefD := ⟨("_law_box", none), "_law_box", "_law_box", defArgs st_law_box, defBody st_law_box, defScope st_law_box, [], []⟩
def dd_law_take : He.DefD := ⟨("_law_take", none), "_law_take", "_law_take", defArgs st_law_take, defBody st_law_take, defScope st_law_take, [], []⟩
def dd_law_unlike : He.DefD := ⟨("_law_unlike", none), "_law_unlike", "_law_unlike", defArgs st_law_unlike, defBody st_law_unlike, defScope st_law_unlike, [], []⟩
def dd_law_words : He.DefD := ⟨("_law_words", none), "_law_words", "_law_words", defArgs st_law_words, defBody st_law_words, defScope st_law_words, [], []⟩
def dd_law_number_in : He.DefD := ⟨("_law_number_in", none), "_law_number_in", "_law_number_in", defArgs st_law_number_in, defBody st_law_number_in, defScope st_law_number_in, [], []⟩
def dd_Web_init : He.DefD := ⟨("Web", some "__init__"), "__init__", "Web.__init__", defArgs st_Web_init, defBody st_Web_init, defScope st_Web_init, [], [("arrows", .adr (kwAt ("Web", some "__init__") "arrows")), ("marks", .adr (kwAt ("Web", some "__init__") "marks"))]⟩
def dd_tie_in : He.DefD := ⟨("tie_in", none), "tie_in", "tie_in", defArgs st_tie_in, defBody st_tie_in, defScope st_tie_in, [], []⟩
def dd_law_one : He.DefD := ⟨("_law_one", none), "_law_one", "_law_one", defArgs st_law_one, defBody st_law_one, defScope st_law_one, [], []⟩
def dd_law_tie_in : He.DefD := ⟨("_law_tie_in", none), "_law_tie_in", "_law_tie_in", defArgs st_law_tie_in, defBody st_law_tie_in, defScope st_law_tie_in, [], []⟩
def dd_law_hue : He.DefD := ⟨("_law_hue", none), "_law_hue", "_law_hue", defArgs st_law_hue, defBody st_law_hue, defScope st_law_hue, [], []⟩
def dd_law_sign : He.DefD := ⟨("_law_sign", none), "_law_sign", "_law_sign", defArgs st_law_sign, defBody st_law_sign, defScope st_law_sign, [], []⟩
def dd_law_wrong_word : He.DefD := ⟨("_law_wrong_word", none), "_law_wrong_word", "_law_wrong_word", defArgs st_law_wrong_word, defBody st_law_wrong_word, defScope st_law_wrong_word, [], []⟩
def dd_law_bent_words : He.DefD := ⟨("_law_bent_words", none), "_law_bent_words", "_law_bent_words", defArgs st_law_bent_words, defBody st_law_bent_words, defScope st_law_bent_words, [], []⟩
def dd_read_web_x : He.DefD := ⟨("read_web", none), "read_web", "read_web", defArgs st_read_web_x, defBody st_read_web_x, defScope st_read_web_x, [], []⟩
def dd_law_same : He.DefD := ⟨("_law_same", none), "_law_same", "_law_same", defArgs st_law_same, defBody st_law_same, defScope st_law_same, [], []⟩
def dd_law_arrow : He.DefD := ⟨("_law_arrow", none), "_law_arrow", "_law_arrow", defArgs st_law_arrow, defBody st_law_arrow, defScope st_law_arrow, [], []⟩
def dd_law_web_c : He.DefD := ⟨("_law_web", none), "_law_web", "_law_web", defArgs st_law_web_c, defBody st_law_web_c, defScope st_law_web_c, [], []⟩
def dd_law : He.DefD := ⟨("law", none), "law", "law", defArgs st_law, defBody st_law, defScope st_law, [], []⟩
def dd_BadText_init : He.DefD := ⟨("BadText", some "__init__"), "__init__", "BadText.__init__", defArgs st_BadText_init, defBody st_BadText_init, defScope st_BadText_init, [], []⟩
def dd_law_at : He.DefD := ⟨("_law_at", none), "_law_at", "_law_at", defArgs st_law_at, defBody st_law_at, defScope st_law_at, [], []⟩
def fn : List He.DefD := [dd_is_colour, dd_is_mark, dd_Web_str, dd_number_in, dd_law_box, dd_law_take, dd_law_unlike, dd_law_words, dd_law_number_in, dd_Web_init, dd_tie_in, dd_law_one, dd_law_tie_in, dd_law_hue, dd_law_sign, dd_law_wrong_word, dd_law_bent_words, dd_read_web_x, dd_law_same, dd_law_arrow, dd_law_web_c, dd_law, dd_BadText_init, dd_law_at]
def fa : List He.Fa := [.cls "Web", .str "COLOURS" "abc", .str "FIGURES" "0123456789", .str "MARKS" "pqr", .int "MOST_POINTS" 81, .noat "Web" "arrow_list", .noat "Web" "backward", .noat "Web" "many", .noat "Web" "mark_list", .noat "Web" "onward", .noat "Web" "spots_there", .free "all", .free "bool", .free "enumerate", .free "int", .free "isinstance", .free "len", .free "list", .free "max", .free "min", .free "range", .free "sorted", .free "str", .free "tuple", .free "zip", .glo "law", .glo "is_colour", .glo "is_mark", .glo "number_in", .glo "_law_box", .glo "_law_take", .glo "_law_unlike", .glo "_law_words", .glo "_law_number_in", .glo "tie_in", .glo "_law_one", .glo "_law_tie_in", .glo "_law_hue", .glo "_law_sign", .glo "_law_wrong_word", .glo "_law_bent_words", .glo "read_web", .glo "_law_same", .glo "_law_arrow", .glo "_law_web", .glo "_law_at", .glo "BadArrow", .glo "BadMark", .glo "BadText", .glo "BadStrike", .glo "BadSize", .glo "BadPoint", .glo "BadNumber", .glo "TooMany", .meth "Web" "__str__", .mkr "Web", .glo "Web"]
def exs (K : PySem.W.Frag) : List Bool := [tup0B K (kwAt ("Web", some "__init__") "arrows" K), tup0B K (kwAt ("Web", some "__init__") "marks" K), lamB K ["law"], decide (fldOf K (He.ga K "BadText") (atl (He.ga K "BadArrow") (He.ga K "BadMark") (He.ga K "BadText") (He.ga K "BadStrike") (He.ga K "BadSize") (He.ga K "BadPoint") (He.ga K "BadNumber") (He.ga K "TooMany")) = some "at"), lamOn K "law", errB K (He.ga K "BadText") "at", decide (fldOf K (He.ga K "BadText") [([.ref (He.ga K "BadText")], "at")] = some "at")]
def ex (K : PySem.W.Frag) : Bool := (exs K).all id
abbrev R : PySem.W.OpenRow := PySem.W.OpenLaw.row PySem.Challenge.rw_wardweb_k05_texts_of_no_web
def ads : List Addr := [3, 6, 4, 21, 31, 51, 70, 89, 108, 127, 146, 165, 184, 193, 200, 293, 302, 309, 314, 321, 328, 335, 340, 347, 354, 361, 368, 375, 380, 385, 390, 395, 402, 409, 416, 0, 20, 30, 50, 69, 88, 107, 126, 145, 164, 183, 192, 199, 292, 301, 308, 313, 320, 327, 334, 339, 346, 353, 360, 367, 374, 379, 384, 389, 394, 401, 408, 415, 15, 16, 17, 18, 19, 29, 32, 48, 49, 67, 68, 86, 87, 105, 106, 124, 125, 143, 144, 162, 163, 181, 182, 187, 188, 189, 190, 191, 194, 195, 196, 197, 198, 215, 222, 229, 234, 241, 248, 255, 262, 269, 276, 283, 290, 291, 294, 295, 298, 299, 300, 303, 304, 305, 306, 307, 310, 311, 312, 315, 316, 317, 318, 319, 322, 323, 324, 325, 326, 329, 330, 331, 332, 333, 336, 337, 338, 341, 342, 343, 344, 345, 348, 349, 350, 351, 352, 355, 356, 357, 358, 359, 362, 363, 364, 365, 366, 369, 370, 371, 372, 373, 376, 377, 378, 381, 382, 383, 386, 387, 388, 391, 392, 393, 396, 397, 398, 399, 400, 403, 404, 405, 406, 407, 410, 411, 412, 413, 414, 47, 66, 85, 104, 123, 142, 161, 180, 214, 210, 221, 228, 233, 240, 247, 254, 261, 268, 275, 282, 289, 42, 43, 44, 45, 46, 61, 62, 63, 64, 65, 80, 81, 82, 83, 84, 99, 100, 101, 102, 103, 118, 119, 120, 121, 122, 137, 138, 139, 140, 141, 156, 157, 158, 159, 160, 175, 176, 177, 178, 179, 211, 212, 213, 208, 209, 216, 217, 218, 219, 220, 223, 224, 225, 226, 227, 230, 231, 232, 235, 236, 237, 238, 239, 242, 243, 244, 245, 246, 249, 250, 251, 252, 253, 256, 257, 258, 259, 260, 263, 264, 265, 266, 267, 270, 271, 272, 273, 274, 277, 278, 279, 280, 281, 284, 285, 286, 287, 288]
abbrev hk : PySem.W.Hook := hookZ ads fa fn ex
def ob (s : PySem.W.SharedT) : Bool × He.AlD := obZ ads fa fn ex (HandSHeadRun.getT s)
theorem ob_eq (s : PySem.W.SharedT) : ob s = hk.obs s.abs := obZ_eq (HandSHeadRun.getT_eq s)
def loose : List Str := [("_wall" : Str), ("__name__" : Str), ("WebError" : Str), ("BadSize" : Str), ("BadArrow" : Str), ("BadMark" : Str), ("BadPoint" : Str), ("BadText" : Str), ("BadNumber" : Str), ("BadStrike" : Str), ("TooMany" : Str), ("MOST_POINTS" : Str), ("COLOURS" : Str), ("MARKS" : Str), ("FIGURES" : Str), ("is_colour" : Str), ("is_mark" : Str), ("Web" : Str), ("number_in" : Str), ("tie_in" : Str), ("read_web" : Str), ("_law_box" : Str), ("_law_take" : Str), ("_law_one" : Str), ("_law_same" : Str), ("_law_at" : Str), ("_law_unlike" : Str), ("_law_hue" : Str), ("_law_sign" : Str), ("_law_arrow" : Str), ("_law_web" : Str), ("_law_words" : Str), ("_law_number_in" : Str), ("_law_tie_in" : Str), ("_law_wrong_word" : Str), ("_law_bent_words" : Str)]
theorem run (w : World) : HandSHeadRun.RunEq R (PySem.W.view R.prog [38]) hk ob 9000 loose w := by
  intro os
  kernel_rfl
end W
set_option maxHeartbeats 1000000
namespace HTr
open PySem L2 PySem.Spec PyProof.Rows
end HTr
namespace HTr
open PySem L2
end HTr
namespace HTr
open PySem L2 PySem.Spec PyProof.Rows
end HTr
namespace HTr
open PySem L2 PyProof.Rows
section
variable {K : PySem.W.Frag}
theorem DpAll.length {H : Hp} : ∀ {xs : List V} {ds : List PyData}, DpAll K H xs ds → xs.length = ds.length
  | _, _, .nil => rfl
  | _, _, .cons _ t => by simp [DpAll.length t]
end
section
variable {X : Cx} {e k : Expr} {te tk : TE} {p2 pos : Pos}
def stepL {α : Type} (xs : List α) (k : Int) : List α := (sliceRange (sliceBounds none none (some k) xs.length).1 (sliceBounds none none (some k) xs.length).2.1 (sliceBounds none none (some k) xs.length).2.2).filterMap (xs[·]?)
theorem stepL_pick (its : List Value) (k : Int) : slicePick its.toArray none none (some k) = (stepL its k).toArray := by
  unfold slicePick stepL
  simp
theorem Vals.pick : ∀ {xs : List V} {us : List Value}, Vals xs us → ∀ js : List Nat, Vals (js.filterMap (xs[·]?)) (js.filterMap (us[·]?))
  | _, _, _, [] => .nil
  | xs, us, r, j :: js => by
    by_cases h : j < xs.length
    · have hu : j < us.length := by rw [← r.length]; exact h
      obtain ⟨u, e1, e2⟩ : ∃ u, us[j]? = some u ∧ RelV xs[j] u := by
        clear js
        induction r generalizing j with
        | nil => simp at h
        | @cons x u xs us rx t ih =>
          cases j with
          | zero => exact ⟨u, rfl, rx⟩
          | succ j =>
            obtain ⟨w, a1, a2⟩ := ih j (by simpa using h) (by simpa using hu)
            exact ⟨w, by simpa using a1, by simpa using a2⟩
      rw [List.filterMap_cons, List.filterMap_cons, e1, List.getElem?_eq_getElem h]
      exact .cons e2 (Vals.pick r js)
    · have hu : ¬ j < us.length := by rw [← r.length]; exact h
      rw [List.filterMap_cons, List.filterMap_cons, List.getElem?_eq_none (by omega), List.getElem?_eq_none (by omega)]
      exact Vals.pick r js
theorem stepL_length {α : Type} (xs : List α) {k : Int} (hk : k ≠ 0) : (stepL xs k).length ≤ xs.length := by
  unfold stepL
  refine Nat.le_trans (List.length_filterMap_le _ _) (sliceRange_length_le _ _ _ _ (fun h => ?_) (fun h => ?_))
  · have h' : k > 0 := h
    simp [sliceBounds, h']
  · have h' : ¬ k > 0 := h
    simp [sliceBounds, h']
def tStep (K : PySem.W.Frag) (te tk : TE) : TE := fun σ H Q => te σ H fun x H1 => tk σ H1 fun y H2 => ∃ (a : Addr) (xs : List V) (k : Int), x = .ref a ∧ y = .int k ∧ k ≠ 0 ∧ SqL K H2 a xs ∧ ∀ p, H2 p = none → Q (.ref p) (upd H2 p (.lst (stepL xs k)))
theorem pe_step (he : PE X e te) (hk : PE X k tk) : PE X (.Subscript e (.Slice none none (some k) p2) pos) (tStep X.K te tk) := by
  refine ⟨fun pins s σ H Q I h => ?_⟩
  refine Subscript_ (thn (he.run pins s σ H _ I h) fun v s1 ⟨x, H1, I1, r1, q1⟩ => ?_)
  refine wpAny_Slice ?_
  rw [evalPart_none]
  refine wpAny_pure ?_
  refine wpAny_pure ?_
  rw [evalPart_some]
  refine thn (hk.run pins s1 σ H1 _ I1 q1) fun vs s2 ⟨y, H2, I2, r2, q2⟩ => ?_
  obtain ⟨a, xs, k', ex, ey, hk0, hx, q⟩ := q2
  subst ex ey
  obtain ⟨tt, et⟩ := r2
  subst et
  have ev : v = .ref a := r1
  subst ev
  have I4 : Inv X pins σ H2 { s2 with heap := s2.heap.push { cls := .type "slice", data := .fields #[.none, .none, .int k' tt] } } := I2.kept (t' := s2.toks) fun b ob q => Heap.get?_push_of_some _ q
  obtain ⟨its, r, ht, hz⟩ := I4.list hx
  have hlen := r.length
  have hg : wpAny (model X.prog X.w) X.A (getItem (.ref a) (.ref s2.heap.objs.size)) (EP X pins σ Q) X.xe { s2 with heap := s2.heap.push { cls := .type "slice", data := .fields #[.none, .none, .int k' tt] } } := by
    refine wpAny_getItem_list_slice ht.isList (Heap.IsSliceOf.new ..) .none .none (.int k' tt) (fun e => hk0 (Option.some.inj e)) ?_ (by rw [List.size_toArray] <;> omega)
    rw [stepL_pick]
    refine ⟨.ref _, _, I4.laid (t' := s2.toks) (o := .lst (stepL xs k')) (fun b ob q => Heap.get?_push_of_some _ q) (Nat.le_refl _) ?_, rfl, q _ (I4.hok.fresh (Nat.le_refl _))⟩
    refine ⟨Nat.le_trans (stepL_length xs hk0) hz, _, 0, ?_, Heap.get?_push_size _ rfl⟩
    have z := Vals.pick r (sliceRange (sliceBounds none none (some k') xs.length).1 (sliceBounds none none (some k') xs.length).2.1 (sliceBounds none none (some k') xs.length).2.2)
    unfold stepL
    rw [← hlen]
    exact z
  show wpAny (model X.prog X.w) X.A (subscriptTail e (.Slice none none (some k) p2) (.ref a) (.ref s2.heap.objs.size)) (EP X pins σ Q) X.xe { s2 with heap := s2.heap.push { cls := .type "slice", data := .fields #[.none, .none, .int k' tt] } }
  exact tail_any (ops := [.ref a, .ref s2.heap.objs.size]) ht.isList.typeIs slot_list_getitem.lookup hg (by with_unfolding_all rfl)
end
section
variable {X : Cx} {K : PySem.W.Frag}
def rStep (m n : MR) : MR := fun S Q => m S fun l _ => n S fun l2 _ => ∃ (ts : List T) (k : Int), itemsF l = some ts ∧ l2 = .fz (.int k) ∧ k ≠ 0 ∧ Q (.lst ((stepL ts k).map .fz)) true
theorem RTs.pick {F : Hp} {ts : List T} {vs : List V} (h : RTs K F ts vs) : ∀ js : List Nat, RTs K F (js.filterMap (ts[·]?)) (js.filterMap (vs[·]?))
  | [] => rfl
  | j :: js => by
    by_cases hj : j < ts.length
    · obtain ⟨v, e1, e2⟩ := h.get (List.getElem?_eq_getElem hj)
      rw [List.filterMap_cons, List.filterMap_cons, e1, List.getElem?_eq_getElem hj]
      exact ⟨v, _, rfl, e2, RTs.pick h js⟩
    · rw [List.filterMap_cons, List.filterMap_cons, List.getElem?_eq_none (by omega), List.getElem?_eq_none (by rw [h.len]; omega)]
      exact RTs.pick h js
theorem lr_step {e : Expr} {m n : MR} (h : PE X e (tStep K (liftR K m) (liftR K n))) : PE X e (liftR K (rStep m n)) := peW h fun σ H Q ⟨F, S, A, G, k, q, w⟩ =>
  ⟨F, S, A, _, k, q, fun l o g v F1 H1 B1 r1 h1 _ => ⟨F1, S, A, _, k.rp r1, g, fun l2 o2 ⟨ts, i, et, e2, hi, g2⟩ v2 F2 H2 B2 r2 h2 _ => by
    subst e2
    obtain ⟨_, rfl⟩ := h2
    have rr := r1.trans r2
    have h3 := h1.mono r2.ff (On.of r2.hh B1)
    obtain ⟨p, us, rfl, e3, e4⟩ := itemsF_ok h3 r2.fh et
    have out : Out K F2 H2 (fun u => G u true) Q := fun u gu w' F4 H4 C r4 h4 nd fr =>
      w u true gu w' F4 H4 C (rr.trans r4) h4 fun _ => ⟨nd, fun c hc => ⟨(fr c hc).1, none_of_dom rr.dom (fr c hc).2⟩⟩
    refine ⟨p, us, i, rfl, rfl, hi, .inl (.inl e3), fun x hx => out.lstF r2.fh g2 ?_ hx⟩
    have z := e4.pick (sliceRange (sliceBounds none none (some i) ts.length).1 (sliceBounds none none (some i) ts.length).2.1 (sliceBounds none none (some i) ts.length).2.2)
    unfold stepL
    rw [e4.len]
    exact z⟩⟩
end
section
variable {K : PySem.W.Frag}
def fMin2 (ls : List L) (G : L → Prop) : Prop := match ls with
  | [.fz (.int i), .fz (.int j)] => G (.fz (.int (if j < i then j else i)))
  | _ => False
theorem cg_min2 : CaG K (fun xs H Q => ∃ i j, xs = [.int i, .int j] ∧ Q (.int (if j < i then j else i)) H) fMin2 := by
  intro F H vs ls B Q G fh h g o
  unfold fMin2 at g
  split at g
  · rename_i i j
    obtain ⟨v, u, A, C, e, h1, h2⟩ := h.two
    subst e
    cases h1.atomOf (u := .int i) rfl
    cases h2.atomOf (u := .int j) rfl
    exact ⟨i, j, rfl, o.atom fh g rfl⟩
  · exact g.elim
end
end HTr
namespace HTr
open PySem L2
abbrev TB := Addr → L2.St → Hp → (Hp → Prop) → Prop
section
variable (K : PySem.W.Frag)
structure Goes (F1 H1 : Hp) (J : It) (ts : List T) : Prop where
  go : ∀ i H, Same H1 H → i < ts.length → J.go i H
  stop : ∀ i H, Same H1 H → ts.length = i → J.stop i H
  yld : ∀ i F H x H', Same F1 F → Same H1 H → Same F H → i < ts.length → J.yld i H x H' → ∃ F' t, RP K F H F' H' ∧ ts[i]? = some t ∧ RT K F' t x
structure Sta (D : Addr) (Fo Ho F H : Hp) (accL : List L) (acc : List V) (B : List Addr) : Prop where
  hd : H D = some (.lst acc)
  fd : F D = none
  rp : RP K Fo Ho F H
  rl : RLs K F H accL acc B
  nD : D ∉ B
  nd : B.Nodup
  fr : ∀ b ∈ B, F b = none ∧ Ho b = none
end
section
variable {K : PySem.W.Frag} {ws vs : List Nat} {X : Cx}
theorem RP.keepD {Fa Ha Fb Hb : Hp} {D : Addr} {xs : List V} (r : RP K Fa Ha Fb Hb) (e : Ha D = some (.lst xs)) (n : Fa D = none) : Fb D = none := r.keepF (A := [D]) (fun a ha => by
        have : a = D := by simpa using ha
        subst this; rw [e]; simp) (fun a ha => by
        have : a = D := by simpa using ha
        subst this; exact n) D (by simp)
theorem Sta.on {D : Addr} {Fo Ho F H F1 H1 : Hp} {accL : List L} {acc : List V} {B : List Addr} (s : Sta K D Fo Ho F H accL acc B) (r : RP K F H F1 H1) : Sta K D Fo Ho F1 H1 accL acc B :=
  ⟨r.hh.g s.hd, r.keepD s.hd s.fd, s.rp.trans r, s.rl.mono r.ff (On.of r.hh _), s.nD, s.nd, fun b hb => ⟨r.keepF s.rl.dom (fun a ha => (s.fr a ha).1) b hb, (s.fr b hb).2⟩⟩
end
end HTr
namespace HTr
open PySem L2
section
variable {K : PySem.W.Frag} {X : Cx}
theorem Goes.of {F1 H1 : Hp} {J : It} {ts : List T} (h : (∀ i H, Same H1 H → i < ts.length → J.go i H) ∧ (∀ i H, Same H1 H → ts.length = i → J.stop i H) ∧
    ∀ i F H x H', Same F1 F → Same H1 H → Same F H → i < ts.length → J.yld i H x H' → ∃ F' t, RP K F H F' H' ∧ ts[i]? = some t ∧ RT K F' t x) : Goes K F1 H1 J ts := ⟨h.1, h.2.1, h.2.2⟩
end
end HTr
namespace L2
open PySem PySem.Spec PyProof.Rows
open HTr (TB)
end L2
namespace L2
open PySem PySem.Spec PyProof.Rows
open HTr (TB)
end L2
namespace HTr
open PySem L2
end HTr
namespace HTr
open PySem L2
end HTr
namespace HTr
open PySem L2 PySem.Spec PyProof.Rows
end HTr
namespace HTr
open PySem L2 PySem.Spec PyProof.Rows
end HTr
namespace HTr
open PySem L2 PySem.Spec PyProof.Rows C8
end HTr
namespace HTr
open PySem L2 PySem.Spec PyProof.Rows
section
variable {X : Cx} {K : PySem.W.Frag} {ws vs : List Nat}
theorem bt_min : bootBuiltins "min" = some (.builtin "min") := by decide +kernel
end
end HTr
namespace HTr
open PySem L2 PySem.Spec PyProof.Rows
end HTr
namespace HTr
open PySem L2 PySem.Spec PyProof.Rows
end HTr
namespace HTr
open PySem PySem.Spec PyProof.Rows L2
end HTr
namespace HTr
open PySem L2
end HTr
namespace HTr
open PySem L2
section
variable {X : Cx} {K : PySem.W.Frag} {W : WX}
theorem ls_frzX {st : Stmt} {i : Nat} {m : MRX} (h : PS X st (tAsg (liftX K W m) (gName i))) : PS X st (liftS K W (sAsgX m (gSlot i))) := psW h fun D σ H ⟨F, S, A, k, e, q, c⟩ =>
  ⟨F, S, A, _, _, k, q, fun l o ⟨eo, hi, g⟩ v F1 H1 B r1 h1 o1 => by
    obtain ⟨nB, fB⟩ := o1 eo
    obtain ⟨rp, k2, ht⟩ := k.freeze r1 h1 fB
    obtain ⟨A', k3, s⟩ := k2.setF ht hi
    exact c.nx _ _ _ _ A' k3 (rp.step.sub fun a ha => .inl (s a ha)) g, fun C fs g F1 H1 d r1 hd => c.ex F1 S σ H1 A C fs d (k.rp r1) r1.step hd g⟩
end
end HTr
namespace HTr
open PySem L2 PySem.Spec PyProof.Rows
end HTr
namespace HTr
open PySem L2
end HTr
namespace HTr
open PySem L2 PySem.Spec PyProof.Rows
end HTr
namespace HTr
open PySem L2 PySem.Spec PyProof.Rows
end HTr
namespace HTr
open PySem L2
section
variable {X : Cx} {K : PySem.W.Frag}
def rSplit (m n : MR) : MR := fun S Q => m S fun l _ => ∃ a : Str, l = .fz (.str a) ∧ n S fun l2 _ => ∃ b : Str, l2 = .fz (.str b) ∧ (b.length == 0) = false ∧ a.length + 2 ≤ sizeLine ∧ Q (.lst (((Txt.split a b).map T.str).map .fz)) true
theorem RTs.strs {F : Hp} : ∀ ys : List Str, RTs K F (ys.map T.str) (ys.map V.str)
  | [] => rfl
  | y :: ys => ⟨.str y, _, rfl, rfl, RTs.strs ys⟩
theorem lr_split {e : Expr} {m n : MR} (h : PE X e (tM1 (fun x xs H Q => ∃ a b, x = .str a ∧ xs = [.str b] ∧ (b.length == 0) = false ∧ a.length + 2 ≤ sizeLine ∧ rNewStrs (Txt.split a b) H Q) (liftR K m) (liftR K n))) : PE X e (liftR K (rSplit m n)) := peW h fun σ H Q ⟨F, S, A, G, k, q, w⟩ =>
  ⟨F, S, A, _, k, q, fun l o g v F1 H1 B1 r1 h1 _ => by
    obtain ⟨x, el, g⟩ := g
    subst el
    obtain ⟨_, rfl⟩ := h1
    exact ⟨⟨x, rfl⟩, F1, S, A, _, k.rp r1, g, fun l2 o2 ⟨y, e2, hy, hl, g2⟩ v2 F2 H2 B2 r2 h2 _ => by
      subst e2
      obtain ⟨_, rfl⟩ := h2
      refine ⟨x, y, rfl, rfl, hy, hl, fun p hp => ?_⟩
      have r12 := r1.trans r2
      have r3 := RP.new (K := K) r2.fh (.lst ((Txt.split x y).map V.str)) hp
      exact w _ true g2 (.ref p) F2 _ [p] (r12.trans r3) ⟨p, (Txt.split x y).map V.str, [], rfl, rfl, upd_same, RLs.fzs (RTs.strs _)⟩ fun _ => ⟨by simp, fun c hc => by
        rw [List.mem_singleton.mp hc]
        exact ⟨Same.no r2.fh hp, none_of_dom r12.dom hp⟩⟩⟩⟩
def rMulS : R2 := fun x y H Q => ∃ (a : Str) (n : Int), x = .str a ∧ y = .int n ∧ MulOk a n ∧ Q (.str (Txt.mul a n)) H
theorem op_mulS : OpR X (binaryOp .Mult) rMulS := by
  intro pins s σ H x y v u Q I rx ry h
  obtain ⟨a, n, rfl, rfl, ok, q⟩ := h
  obtain ⟨t, rfl⟩ := rx
  obtain ⟨t2, rfl⟩ := ry
  exact SB.mul ok fun t' k => ⟨.str (Txt.mul a n), H, I.tok _, ⟨_, rfl⟩, q⟩
def fMulS : L → L → (L → Prop) → Prop
  | .fz (.str a), .fz (.int n), G => MulOk a n ∧ G (.fz (.str (Txt.mul a n)))
  | _, _, _ => False
theorem og_mulS : OpG K rMulS fMulS := by
  intro F H x y l l' A B Q G fh h1 h2 q o
  unfold fMulS at q
  split at q
  · rename_i a n
    cases h1.atomOf (u := .str a) rfl
    cases h2.atomOf (u := .int n) rfl
    exact ⟨a, n, rfl, rfl, q.1, o.atom fh q.2 rfl⟩
  · exact q.elim
end
end HTr
namespace HTr
open PySem L2
end HTr
namespace HTr
open PySem

section
variable {prog : Program} {w : World} {K : Type} [DecidableEq K] (knd : KeyKind prog w K)
inductive DeepAre (h : Heap) : List (List K) → List Value → Prop
  | nil : DeepAre h [] []
  | cons {k : List K} {b : Addr} {ks : List (List K)} {vs : List Value} : IsTupleKey knd h k b → DeepAre h ks vs → DeepAre h (k :: ks) (.ref b :: vs)
def IsDeep (h : Heap) (ks : List (List K)) (a : Addr) : Prop := ∃ o items n, h.get? a = some o ∧ o.cls = .type "tuple" ∧ o.data = .seq items n ∧ DeepAre knd h ks items.toList
variable {knd}
theorem DeepAre.inj {h : Heap} {x y : List (List K)} {vs : List Value} (hx : DeepAre knd h x vs) (hy : DeepAre knd h y vs) : x = y := by
  induction hx generalizing y with
  | nil => cases hy; rfl
  | cons h1 _ ih =>
    cases hy with
    | cons h2 t2 => rw [h1.inj h2, ih t2]
theorem IsDeep.typeIs {s : Shared} {ks : List (List K)} {a : Addr} (x : IsDeep knd s.heap ks a) : s.TypeIs (.ref a) "tuple" := let ⟨o, _, _, ho, hc, _⟩ := x; ⟨o, ho, hc⟩
theorem IsDeep.inj {h : Heap} {a : Addr} {x y : List (List K)} (hx : IsDeep knd h x a) (hy : IsDeep knd h y a) : x = y := by
  obtain ⟨o, items, n, ho, _, hd, hi⟩ := hx
  obtain ⟨o', items', n', ho', _, hd', hi'⟩ := hy
  obtain rfl : o = o' := Option.some.inj (ho.symm.trans ho')
  rw [hd] at hd'
  injection hd' with h1 _
  subst h1
  exact hi.inj hi'
theorem DeepAre.keeps {h h' : Heap} {d : Addr} {o : Obj} {es ep} (ho : h.get? d = some o) (hd : o.data = .dict es ep) (hs : Heap.SameBut d h h') : ∀ {ks : List (List K)} {vs : List Value}, DeepAre knd h ks vs → DeepAre knd h' ks vs
  | _, _, .nil => .nil
  | _, _, .cons h1 t => .cons (h1.keeps ho hd hs) (t.keeps ho hd hs)
theorem IsDeep.keeps {h h' : Heap} {ks : List (List K)} {a d : Addr} {o : Obj} {es ep} (x : IsDeep knd h ks a) (ho : h.get? d = some o) (hd : o.data = .dict es ep) (hs : Heap.SameBut d h h') :
    IsDeep knd h' ks a := by
  obtain ⟨o', items, n, ho', hc, hd', hi⟩ := x
  have hne : a ≠ d := by
    rintro rfl
    obtain rfl : o' = o := Option.some.inj (ho'.symm.trans ho)
    rw [hd] at hd'; exact nomatch hd'
  exact ⟨o', items, n, (hs.2 a hne).trans ho', hc, hd', hi.keeps ho hd hs⟩
variable {A : Around} {E : Value → Shared → Prop} {s : Shared}
end
end HTr
namespace HTr
open PySem PySem.Spec PyProof.Rows L2
end HTr
namespace HTr
open PySem L2
section
variable {K : PySem.W.Frag} {ws : List Nat} {F F' H : Hp}
abbrev DRel (K : PySem.W.Frag) (F : Hp) : List (List (List Key) × Int) → List (List (List Key) × Addr × Value) → Prop := Paired (fun (p : List (List Key) × Int) (x : List (List Key) × Addr × Value) => p.1 = x.1 ∧ DeepT K F x.2.1 x.1 ∧ RelV (.int p.2) x.2.2)
theorem DRel.pick : ∀ {kvs xs} {ks : List (List Key)} {i : Int}, DRel K F kvs xs → (ks, i) ∈ kvs → ∃ x ∈ xs, x.1 = ks ∧ RelV (.int i) x.2.2
  | _, _, _, _, .nil, h => by simp at h
  | _, _, _, _, .cons a t, h => by
    rcases List.mem_cons.mp h with e | h
    · subst e
      exact ⟨_, by simp, a.1.symm, a.2.2⟩
    · obtain ⟨x, h1, h2⟩ := DRel.pick t h
      exact ⟨x, by simp [h1], h2⟩
variable {X : Cx} {vs : List Nat}
end
end HTr
namespace HTr
open PySem L2 PySem.Spec PyProof.Rows
end HTr
set_option maxHeartbeats 4000000
namespace HTr
open PySem L2 PySem.Spec PyProof.Rows
end HTr
namespace HTr
open PySem L2 PySem.Spec PyProof.Rows RZ
end HTr
namespace HTr
open PySem L2 PySem.Spec PyProof.Rows
end HTr
namespace HTr
open PySem L2 PySem.Spec PyProof.Rows C8
end HTr
namespace HTr
open PySem L2 PySem.Spec PyProof.Rows
section
variable {X : Cx} {K : PySem.W.Frag}
theorem RTs.strs_inv {F : Hp} : ∀ {ys : List Str} {vs : List V}, RTs K F (ys.map T.str) vs → vs = ys.map V.str
  | [], _, e => e
  | y :: ys, _, ⟨v, r, e, h1, h2⟩ => by
    rw [e, RTs.strs_inv h2, show v = V.str y from h1]
    rfl
def rJoin (m n : MR) : MR := fun S Q => m S fun l _ => ∃ a : Str, l = .fz (.str a) ∧ n S fun l2 _ => ∃ ys : List Str, seqItems l2 = some (ys.map T.str) ∧ (ys.map (·.length)).sum + ys.length * a.length ≤ 16777216 ∧ Q (.fz (.str (Txt.join a ys))) true
theorem lr_join {e : Expr} {m n : MR} (h : PE X e (tM1 (fun x xs H Q => ∃ a p, ∃ ys : List Str, x = .str a ∧ xs = [.ref p] ∧ (SqL K H p (ys.map V.str) ∨ SqT K H p (ys.map V.str)) ∧ (ys.map (·.length)).sum + ys.length * a.length ≤ 16777216 ∧ Q (.str (Txt.join a ys)) H) (liftR K m) (liftR K n))) :
    PE X e (liftR K (rJoin m n)) := peW h fun σ H Q ⟨F, S, A, G, k, q, w⟩ =>
  ⟨F, S, A, _, k, q, fun l o g v F1 H1 B1 r1 h1 _ => by
    obtain ⟨x, el, g⟩ := g
    subst el
    obtain ⟨_, rfl⟩ := h1
    exact ⟨⟨x, rfl⟩, F1, S, A, _, k.rp r1, g, fun l2 o2 ⟨ys, e2, hz, g2⟩ v2 F2 H2 B2 r2 h2 _ => by
      have h3 := h2.seen r2.fh
      have r12 := r1.trans r2
      have out : Q (.str (Txt.join x ys)) H2 := w _ true g2 (.str (Txt.join x ys)) F2 H2 [] r12 ⟨rfl, rfl⟩ own_nil
      unfold seqItems at e2
      split at e2
      · rename_i ts et
        cases e2
        rw [et] at h3
        obtain ⟨a, vs, rfl, ha, hv⟩ := h3
        rw [hv.strs_inv] at ha
        exact ⟨x, a, ys, rfl, rfl, .inl (.inl (.inl ha)), hz, out⟩
      · rename_i ts et
        cases e2
        rw [et] at h3
        obtain ⟨a, vs, rfl, ha, hv⟩ := h3
        rw [hv.strs_inv] at ha
        exact ⟨x, a, ys, rfl, rfl, .inr ha, hz, out⟩
      · cases e2⟩⟩
def rFmt (m : MR) : MR := fun S Q => m S fun l _ => match l with
  | .fz (.str y) => y.length ≤ sizeLine ∧ Q (.fz (.str y)) true
  | .fz (.int i) => i.natAbs.log2 < 1920 ∧ Q (.fz (.str (toString i))) true
  | _ => False
theorem lr_fmt {e : Expr} {m : MR} (h : PE X e (tFmt (liftR K m))) : PE X e (liftR K (rFmt m)) := peW h fun σ H Q ⟨F, S, A, G, k, q, w⟩ =>
  ⟨F, S, A, _, k, q, fun l o g v F1 H1 B1 r1 h1 _ => by
    split at g
    · rename_i y
      obtain ⟨_, rfl⟩ := h1
      exact .inl ⟨y, rfl, g.1, w _ true g.2 _ F1 H1 [] r1 ⟨rfl, rfl⟩ own_nil⟩
    · rename_i i
      obtain ⟨_, rfl⟩ := h1
      exact .inr ⟨i, rfl, g.1, w _ true g.2 _ F1 H1 [] r1 ⟨rfl, rfl⟩ own_nil⟩
    · exact g.elim⟩
def jParts : List MR → Str → MR
  | [], acc => fun _ Q => Q (.fz (.str acc)) true
  | m :: ms, acc => fun S Q => m S fun l _ => ∃ y : Str, l = .fz (.str y) ∧ (acc ++ y).length ≤ sizeLine ∧ jParts ms (acc ++ y) S Q
def rJs (ms : List MR) : MR := fun S Q => jParts ms Str.empty S Q
theorem w_parts : ∀ (ms : List MR) (acc : Str) (σ : L2.St) (H : Hp) (Q : VK), liftR K (jParts ms acc) σ H Q → tJs (ms.map (liftR K)) acc σ H fun out H1 => Q (.str out) H1
  | [], acc, σ, H, Q, ⟨F, S, A, G, k, q, w⟩ => w _ true q (.str acc) F H [] (RP.refl k.fh) ⟨rfl, rfl⟩ own_nil
  | m :: ms, acc, σ, H, Q, ⟨F, S, A, G, k, q, w⟩ => by
    show liftR K m σ H _
    refine ⟨F, S, A, _, k, q, fun l o ⟨y, el, hz, g⟩ v F1 H1 B1 r1 h1 _ => ?_⟩
    subst el
    obtain ⟨_, rfl⟩ := h1
    exact ⟨y, rfl, hz, w_parts ms (acc ++ y) σ H1 Q ⟨F1, S, A, G, k.rp r1, g, PRw w r1⟩⟩
theorem lj_nil : PJ X [] (([] : List MR).map (liftR K)) := .nil
theorem lj_cons {e : Expr} {m : MR} {es : List Expr} {ms : List MR} (h : PE X e (liftR K m)) (r : PJ X es (ms.map (liftR K))) : PJ X (e :: es) ((m :: ms).map (liftR K)) := .cons h r
theorem lr_js {v1 v2 : Expr} {rest : List Expr} {ms : List MR} {pos : Pos} (h : PJ X (v1 :: v2 :: rest) (ms.map (liftR K))) : PE X (.JoinedStr (v1 :: v2 :: rest) pos) (liftR K (rJs ms)) := peW (pe_joined h) fun σ H Q q => w_parts ms Str.empty σ H Q q
def fStr (ls : List L) (G : L → Prop) : Prop := match ls with
  | [.fz (.int i)] => i.natAbs.log2 < 1920 ∧ G (.fz (.str (toString i)))
  | [.fz (.str a)] => G (.fz (.str a))
  | _ => False
theorem cg_str : CaG K (fun xs H Q => (∃ i, xs = [.int i] ∧ i.natAbs.log2 < 1920 ∧ Q (.str (toString i)) H) ∨ ∃ a, xs = [.str a] ∧ Q (.str a) H) fStr := by
  intro F H vs ls B Q G fh h g o
  unfold fStr at g
  split at g
  · rename_i i
    obtain ⟨e1, e2⟩ := RLs.atoms1 (v := .int i) rfl h
    exact .inl ⟨i, e1, g.1, o.atom fh g.2 rfl⟩
  · rename_i a
    obtain ⟨e1, e2⟩ := RLs.atoms1 (v := .str a) rfl h
    exact .inr ⟨a, e1, o.atom fh g rfl⟩
  · exact g.elim
theorem ca_str : CallR X (.type "str") (fun xs H Q => (∃ i, xs = [.int i] ∧ i.natAbs.log2 < 1920 ∧ Q (.str (toString i)) H) ∨ ∃ a, xs = [.str a] ∧ Q (.str a) H) := call_str_int.or SkE.call_str_str
theorem meets_strIn {prog : Program} {w : World} {v : Value} {S : PySem.Spec} (hs : ∀ (A : Around) (R : Result → Shared → Prop) (s : Shared), S A R s →
      wpAny (model prog w) A.in1 (Builtin.Str.strOf v) (fun r s' => R (.ok (.ret r)) s') (fun e s' => R (.error e) s') s) : MeetsIn prog w (Builtin.«str.__new__» ⟨[.type "str", v], []⟩) S := by
  refine MeetsIn.of_wp fun A R s h => ?_
  rw [str_new_tree v]
  refine wpAny_bind (wpAny_pure ?_)
  refine wpAny_bind (wpAny_of_eq isSubtype_str_str ?_)
  exact wpAny_bind (wpAny_mono (hs A R s h) (fun r s' h' => wpAny_pure ⟨_, rfl, h'⟩) fun _ _ e => e)
def rStrO (K : PySem.W.Frag) (C : Addr) (sp : Sp) : List V → Hp → VK → Prop := fun xs H Q => ∃ a dx fs, xs = [V.ref a] ∧ H a = some (.ins C dx fs) ∧ sp [.ref a] H (fun z H' => ∃ y : Str, z = .str y ∧ Q z H') fun _ _ _ => False
theorem call_strO {C g : Addr} {k : Nat} {fd : FuncData} {ps : List Str} {sp : Sp} (hm : Meth X.K C "__str__" g) (G : FnOk X.prog X.w X.K X.mg X.base C8.CX0 k g fd ps sp) (bd : Binds X.K fd ps []) (hr : Room (k + 3) X.A) : CallR X (.type "str") (rStrO X.K C sp) := by
  intro pins s σ H xs us Q I r h
  obtain ⟨a, dx, fs, rfl, ha, q⟩ := h
  obtain ⟨u, rfl, ru⟩ := r.one
  obtain rfl : u = Value.ref a := ru
  obtain ⟨mA, O, _⟩ := ins_get I.hok ha
  obtain ⟨od, J, _⟩ := O.look
  have sp1 : PySem.W.Looks (model X.prog X.w) s.heap (specialOf (.ref a) "__str__") (some (.ref g)) := J.type.andThen (PySem.W.looks_findIn I.kIn hm.at_)
  have ty : PySem.W.typeIn X.K (.ref g) = some (.type "function") := eq_of_beq hm.fn
  have hr2 : Room (k + 1) X.A.in1.in1 := (show Room (k + 2) X.A.in1 from hr.in1).in1
  refine callType_newIn (s := s) F.called_str (by decide) (F.typeCall_str_1 _) (F.newCall_str_1 _) (fun obj => F.args_object_init_2 obj _) F.entry_str_new
    (meets_strIn (S := fun (A : Around) (R : Result → Shared → Prop) (s : Shared) => wpAny (model X.prog X.w) A.in1 (Builtin.Str.strOf (.ref a)) (fun r s' => R (.ok (.ret r)) s') (fun e s' => R (.error e) s') s) fun _ _ _ h => h) ?_
  show wpAny _ _ (Builtin.Str.strOf (.ref a)) _ _ _
  unfold Builtin.Str.strOf
  rw [if_neg (by rw [show Builtin.Str.isExactStr (.ref a) = false from rfl]; decide)]
  refine wpAny_bind (wpAny_cRoomFor hr2.units0 ?_)
  refine wpAny_bind (m := callSpecial? (.ref a) (Str.ofString "__str__")) ?_
  simp only [callSpecial?]
  refine wpAny_bind (sp1.here ?_)
  dsimp only
  refine wpAny_holding (wpAny_bind ((PySem.W.bind_fn I.kIn (.ref a) ty).here ?_))
  dsimp only
  refine wpAny_bind (wpAny_call (codeAny_mono (G.run X.A.in1.in1 X.stack s H ⟨[.ref a], []⟩ [.ref a] [.ref a] _ (fun _ _ _ => False) (hr2.mono (by omega)) I.env0.in1.in1 (bd s [.ref a] I.kIn (by have := G.len _ _ _ _ q; simpa using this)) (.cons rfl .nil) q) fun r s' fin => ?_))
  cases r with
  | error e => exact (show False from fin).elim
  | ok fl =>
    cases fl with
    | next => exact False.elim fin
    | brk => exact False.elim fin
    | cont => exact False.elim fin
    | ret u =>
      obtain ⟨z, H', I', rz, y, ey, qz⟩ := I.after fin
      subst ey
      obtain ⟨t, e⟩ := (show ∃ t, u = Value.str y t from rz)
      cases e
      refine wpAny_pure ?_
      dsimp only
      refine wpAny_bind (m := asStr? (.str y t)) (wpAny_pure ?_)
      rw [if_neg (by simp)]
      exact wpAny_pure ⟨typeIs_str _ _ _, .str y, H', I', ⟨_, rfl⟩, qz⟩
end
end HTr
set_option maxHeartbeats 1000000
namespace HTr
open PySem L2 PySem.Spec PyProof.Rows
section
variable {X : Cx} {k : Nat} {f C : Addr} {fd : FuncData} {ps : List Str} {sp : Sp} {dvs : List V} {ds : List Value} {W : WX} {x m : Str} {p pos apos : Pos} {e o : Expr} {es : List Expr} {ta : TE} {t : TA}
abbrev EW (W : WX) (σ : L2.St) : XK := fun cls d H => W cls d σ H
theorem run_fnW {pins : List (Addr × Obj)} {σ : L2.St} {H : Hp} {s : Shared} {Q : VK} {us : List Value} {vs : List V} (F : FnOk X.prog X.w X.K X.mg X.base (L2.CX X.prog X.w) k f fd ps sp) (hr : Room k X.A) (hb : L2.Binds X.K fd ps ds) (hd : Vals dvs ds) (tk : Takes X W)
    (I : Inv X pins σ H s) (r : Vals vs us) (h : sp (vs ++ dvs) H Q (EW W σ)) : wpAny (model X.prog X.w) X.A (call (.ref f) us) (EP X pins σ Q) X.xe s := by
  have r2 : Vals (vs ++ dvs) (us ++ ds) := r.append hd
  have hl : (us ++ ds).length = ps.length := by rw [← r2.length]; exact F.len _ _ _ _ h
  refine wpAny_call (codeAny_mono (F.run X.A X.stack s H ⟨us, []⟩ (us ++ ds) (vs ++ dvs) Q (EW W σ) hr I.env0 (hb s us I.kIn hl) r2 h) fun r s' hq => ?_)
  cases r with
  | error e => exact tk e s' (XE.of_call I (fun _ _ _ z => z) hq)
  | ok fl =>
    cases fl with
    | ret u => exact I.after hq
    | next => exact False.elim hq
    | brk => exact False.elim hq
    | cont => exact False.elim hq
def tCallW (sp : Sp) (dvs : List V) (W : WX) (t : TA) : TE := fun σ H Q => t σ H fun vs H1 => sp (vs ++ dvs) H1 Q (EW W σ)
theorem pe_callW (F : FnOk X.prog X.w X.K X.mg X.base (L2.CX X.prog X.w) k f fd ps sp) (hr : Room k X.A) (hg : Gl X x) (hm : X.mg x = some (.ref f)) (hk : PySem.W.keepIn X.K (.ref f) = true) (hb : L2.Binds X.K fd ps ds) (hd : Vals dvs ds) (tk : Takes X W)
    (ha : PA X (e :: es) t) (hdb : (x == ("__debug__" : Str)) = false := by decide) (he : starEach (e :: es) X.env = (false, eval e X.env) :: starEach es X.env := by rfl) (hpl : (backTo pos (starEach es X.env)).any (·.1) = false := by rfl) :
    PE X (.Call (.Name x p) (e :: es) [] pos) (tCallW sp dvs W t) := by
  refine ⟨fun pins s σ H Q I h => ?_⟩
  refine wpAny_Call_Name_kw (ld_glob I hg hm ?_ hdb)
  refine PySem.W.callWith_K (h₀ := X.base) I.ok.mod.kin hk (thn (ha.run pos pins s σ H _ I h) fun us s1 ⟨vs, H1, I1, r, q⟩ => ⟨I1.kIn, ?_⟩) he hpl
  exact run_fnW F hr hb hd tk I1 r q
end
section
variable {X : Cx} {K : PySem.W.Frag} {W EX : WX}
theorem lr_callXW {e : Expr} {sp : SpX} {dts : List T} {dvs : List V} {m : MA} (hd : ∀ F, RTs K F dts dvs) (h : PE X e (tCallW (spOfX K sp) dvs W (liftA K m))) : PE X e (liftX K W (rCallX sp dts m)) := peW h fun σ H Q ⟨F, S, A, G, GX, k, q, w, wx⟩ =>
  ⟨F, S, A, _, k, q, fun ls o g vs F1 H1 B r1 h1 o1 => spX_of (E := EW W σ) (frz_ts ls dts) (callU_sp hd w ⟨rfl, fun r bk z => z⟩ r1 k.tb h1 o1) g fun C fs gx H' d hh hd => wx C fs gx F1 H' d (r1.more hh) hd⟩
def rStrX (C : Nat) (sp : SpT) (m : MRX) : MRX := fun S Q QX => m S (fun l o => match l.tree with
  | .obj C' _ _ => C' = C ∧ sp [.fz l.tree] fun r _ => outOk o [l] r ∧ ∃ y : Str, r = .fz (.str y) ∧ Q (.fz (.str y)) true
  | _ => False) QX
theorem lr_strX {e : Expr} {C : Addr} {sp : SpT} {m : MRX} (h : PE X e (tCB (rStrO K C (spOf K sp)) (tCons (liftX K W m) tNil))) : PE X e (liftX K W (rStrX C sp m)) := peW h fun σ H Q ⟨F, S, A, G, GX, k, q, w, wx⟩ => ⟨F, S, A, _, GX, k, q, fun l o g v F1 H1 B1 r1 h1 o1 => by
  split at g
  · rename_i C' ns ts et
    obtain ⟨eC, g⟩ := g
    subst eC
    obtain ⟨a, dx, vs, ev, ha, hn⟩ := h1.obj r1.fh et
    subst ev
    refine ⟨a, dx, _, rfl, ha, ?_⟩
    have hl : RLs K F1 H1 [l] [.ref a] B1 := ⟨.ref a, [], B1, [], rfl, by simp, h1, rfl, rfl⟩
    exact callU_sp (ls := [l]) (o := o) (dts := []) (dvs := []) (fun _ => rfl) (G := fun r _ => ∃ y : Str, r = .fz (.str y) ∧ G (.fz (.str y)) true)
      (fun l2 o2 ⟨y, e2, g2⟩ v2 F2 H2 B2 r2 h2 o3 => by
        subst e2
        have ev2 : v2 = .str y := h2.2
        subst ev2
        exact ⟨y, rfl, w _ true g2 (.str y) F2 H2 [] r2 ⟨rfl, rfl⟩ own_nil⟩) g r1 k.tb hl o1
  · exact g.elim, wx⟩
theorem CS.clr {F H : Hp} : ∀ {S : S} {σ : L2.St} {A : List Addr} (i : Nat), CS K F H S σ A → ∃ A', CS K F H (S.set i none) (σ.set i none) A' ∧ (A.Nodup → A'.Nodup) ∧ ∀ a ∈ A', a ∈ A
  | [], _, _, _, h => by
    obtain ⟨rfl, rfl⟩ := h
    exact ⟨[], ⟨rfl, rfl⟩, id, fun _ z => z⟩
  | none :: S, _, A, 0, ⟨o, r, e, h⟩ => by
    subst e
    exact ⟨A, ⟨Option.none, r, rfl, h⟩, id, fun _ z => z⟩
  | none :: S, _, A, i + 1, ⟨o, r, e, h⟩ => by
    subst e
    obtain ⟨A', h1, h2, h3⟩ := CS.clr i h
    exact ⟨A', ⟨o, _, rfl, h1⟩, h2, h3⟩
  | some l :: S, _, A, 0, ⟨v, r, B, C, e, eA, h1, h2⟩ => by
    subst e eA
    exact ⟨C, ⟨Option.none, r, rfl, h2⟩, fun n => (List.nodup_append.mp n).2.1, fun a z => List.mem_append_right _ z⟩
  | some l :: S, _, A, i + 1, ⟨v, r, B, C, e, eA, h1, h2⟩ => by
    subst e eA
    obtain ⟨A', h3, h4, h5⟩ := CS.clr i h2
    refine ⟨B ++ A', ⟨v, _, B, A', rfl, rfl, h1, h3⟩, fun n => ?_, fun a z => ?_⟩
    · obtain ⟨n1, n2, n3⟩ := List.nodup_append.mp n
      exact List.nodup_append.mpr ⟨n1, h4 n2, fun a ha b hb => n3 a ha b (h5 b hb)⟩
    · rcases List.mem_append.mp z with z | z
      · exact List.mem_append_left _ z
      · exact List.mem_append_right _ (h5 a z)
theorem Ok.clr {F H : Hp} {S : S} {σ : L2.St} {A : List Addr} (k : Ok K F H S σ A) (i : Nat) : ∃ A', Ok K F H (S.set i none) (σ.set i none) A' ∧ ∀ a ∈ A', a ∈ A := by
  obtain ⟨A', h1, h2, h3⟩ := k.cs.clr i
  exact ⟨A', ⟨k.fh, h1, h2 k.nd, fun a ha => k.nf a (h3 a ha), k.tb⟩, h3⟩
def tsF (K : PySem.W.Frag) (F : Str) (i j : Nat) (a : Addr) (cls : Value) (d : Option Addr) : TS := tAsg (tXfA K a cls d F (tVar i)) (gName j)
def sTryF (C : Nat) (F : Str) (i j : Nat) (mb : MS) : MS := fun e S => mb { e with ex := fun C' fs S' => C' = C ∧ i ≠ j ∧ i < S'.length ∧ j < S'.length ∧ ∃ v tv, fs.lookup F = some v ∧ vTree v = some tv ∧ e.nx ((S'.set j (some (.fz tv))).set i none) } S
theorem ls_tryF {st : Stmt} {C : Nat} {F : Str} {i j : Nat} {mb : MS} (hc : Caught K C F [([.ref C], F)]) (h : PS X st (fun D σ H => liftS K (wClauses K i EX D [([.ref C], tsF K F i j)]) mb D σ H)) : PS X st (liftS K EX (sTryF C F i j mb)) := psW h fun D σ H ⟨F0, S, A, k, e, q, c⟩ => by
  refine ⟨F0, S, A, k, _, q, ⟨c.nx, c.bk, c.ct, c.rt, fun F1 S1 σ1 H1 A1 C' fs d k1 t1 hd q1 => ?_⟩⟩
  obtain ⟨eC, ne, hi, hj, v, tv, e1, e2, q2⟩ := q1
  subst eC
  obtain ⟨b, h1, h2, h3⟩ := hc
  refine ⟨b, h1, fun hb a ha => ?_, fun hb => (h3 hb).elim⟩
  obtain ⟨_, xf, n1, n2⟩ := h2 hb
  have ls : σ1.length = S1.length := k1.cs.len
  refine ⟨C', xf, n2, .ref a, by rw [List.getElem?_set_self (by omega)], rfl, rfl, d, fs, v, rfl, hd, e1, ?_⟩
  obtain ⟨A2, k2, s2⟩ := k1.setF (i := j) (t := tv) (v := v) (RT.vTree e2) hj
  obtain ⟨A3, k3, s3⟩ := k2.clr i
  have es : (((σ1.set i (some (V.ref a))).set j (some v)).set i none) = (σ1.set j (some v)).set i none := by
    rw [List.set_comm _ _ ne, List.set_set]
  show D.nx (((σ1.set i (some (V.ref a))).set j (some v)).set i none) H1
  rw [es]
  exact c.nx F1 _ _ H1 A3 k3 (t1.sub fun x hx => .inl (s2 x (s3 x hx))) q2
theorem takes_no : Takes X NoX := fun _ _ ⟨_, _, _, _, _, _, _, _, _, _, _, _, _, _, _, _, z⟩ => z.elim
end
end HTr
set_option maxHeartbeats 1000000
namespace HTr
open PySem L2 PySem.Spec PyProof.Rows
section
variable {X : Cx} {K : PySem.W.Frag} {EX : WX}
theorem star_list {A : Around} {E : Value → Shared → Prop} {s : Shared} {l : Addr} {items : Array Value} {n i : Nat} {Q : List Value → Shared → Prop} (hl : s.heap.IsList l items) (hh : A.handled = none) (hi : i < n) (hn : n ≤ items.size + 1) (hz : items.size ≤ sizeLine)
    (h : ∀ h' tk, Heap.ExtBut s.heap.objs.size s.heap h' → Q (items.toList.take i ++ [.ref h'.objs.size] ++ (items.toList.drop i).drop (items.size + 1 - n)) { s with heap := h'.push { cls := .type "list", data := .seq ((items.toList.drop i).take (items.size + 1 - n)).toArray }, toks := tk }) :
    wpAny (model X.prog X.w) A (unpackItems (.ref l) n (some i)) Q E s := by
  have hlt : l ≠ s.heap.objs.size := by obtain ⟨o, ho, _⟩ := hl; exact Nat.ne_of_lt (Heap.lt_size ho)
  have hll : l < s.heap.objs.size := by obtain ⟨o, ho, _⟩ := hl; exact Heap.lt_size ho
  unfold unpackItems
  refine wpAny_bind ?_
  unfold notIterableAtAll
  refine wpAny_bind (wpAny_specialOf hl.typeIs slot_list_iter.lookup ?_)
  refine wpAny_pure ?_
  simp only [Bool.false_eq_true, if_false]
  refine wpAny_bind (wpAny_holding (wpAny_pyIter_list hl ?_))
  refine wpAny_bind (wpAny_holding (PySem.W.kun_draw hlt i 0 _ _ ⟨_, Heap.get?_push_size _ rfl, rfl, rfl⟩ (hl.push _) (by omega) fun h₁ hit₁ hs₁ => ?_))
  have hl₁ : h₁.IsList l items := (hl.push _).extBut hs₁.extBut hlt
  rw [Nat.zero_add] at hit₁
  have hit₁' := hit₁
  obtain ⟨oi, hoi, _⟩ := hit₁'
  have hl₁' := hl₁
  obtain ⟨ol, hol, _⟩ := hl₁'
  rw [List.drop_zero]
  have hfl : (items.toList.take i).length = i := by rw [List.length_take, Array.length_toList]; omega
  rw [if_neg (show ¬ ((items.toList.take i).length < i) by rw [hfl]; omega)]
  refine wpAny_bind (wpAny_holding (PySem.W.kun_collect (s := { s with heap := h₁ }) (T := "list_iterator") (.inr (.inr (.inl rfl))) (Walks.list (A := A.in1) hh s.heap.objs.size l hlt items) (fun j u st => st.1.typeIs) (k := i) (by omega) ⟨hit₁, hl₁⟩ (Heap.lt_size hoi) (Heap.lt_size hol) (fun h₂ tk hk => ?_) hz))
  have hrl : (items.toList.drop i).length = items.size - i := by rw [List.length_drop, Array.length_toList]
  have hmid : (items.toList.drop i).length - (n - 1 - i) = items.size + 1 - n := by rw [hrl]; omega
  show wpAny _ _ (if (items.toList.drop i).length < n - 1 - i then _ else _) _ _ _
  rw [if_neg (by rw [hrl]; omega)]
  show wpAny _ _ (newList ((items.toList.drop i).take ((items.toList.drop i).length - (n - 1 - i))) >>= fun d => pure (items.toList.take i ++ [d] ++ (items.toList.drop i).drop ((items.toList.drop i).length - (n - 1 - i)))) _ _ _
  rw [hmid]
  have he : Heap.ExtBut s.heap.objs.size s.heap h₂ := fun b o hb e => hk b o hb (hs₁.extBut b o hb (Heap.get?_push_of_some _ e))
  exact wpAny_bind (wpAny_newList (wpAny_pure (h h₂ tk he)) (by rw [List.length_take, hrl]; omega))
theorem star_tup {A : Around} {E : Value → Shared → Prop} {s : Shared} {l : Addr} {items : Array Value} {n i : Nat} {Q : List Value → Shared → Prop} (hl : IsTup s.heap l items) (hh : A.handled = none) (hi : i < n) (hn : n ≤ items.size + 1) (hz : items.size ≤ sizeLine)
    (h : ∀ h' tk, Heap.ExtBut s.heap.objs.size s.heap h' → Q (items.toList.take i ++ [.ref h'.objs.size] ++ (items.toList.drop i).drop (items.size + 1 - n)) { s with heap := h'.push { cls := .type "list", data := .seq ((items.toList.drop i).take (items.size + 1 - n)).toArray }, toks := tk }) :
    wpAny (model X.prog X.w) A (unpackItems (.ref l) n (some i)) Q E s := by
  have hlt : l ≠ s.heap.objs.size := by obtain ⟨o, ho, _⟩ := hl; exact Nat.ne_of_lt (Heap.lt_size ho)
  have hll : l < s.heap.objs.size := by obtain ⟨o, ho, _⟩ := hl; exact Heap.lt_size ho
  unfold unpackItems
  refine wpAny_bind ?_
  unfold notIterableAtAll
  refine wpAny_bind (wpAny_specialOf hl.typeIs slot_tuple_iter.lookup ?_)
  refine wpAny_pure ?_
  simp only [Bool.false_eq_true, if_false]
  refine wpAny_bind (wpAny_holding (iter_tuple hl ?_))
  refine wpAny_bind (wpAny_holding (draw_tuple hlt i 0 _ _ ⟨_, Heap.get?_push_size _ rfl, rfl, rfl⟩ (hl.push _) (by omega) fun h₁ hit₁ hs₁ => ?_))
  have hl₁ : IsTup h₁ l items := (hl.push _).extBut hs₁.extBut hlt
  rw [Nat.zero_add] at hit₁
  have hit₁' := hit₁
  obtain ⟨oi, hoi, _⟩ := hit₁'
  have hl₁' := hl₁
  obtain ⟨ol, hol, _⟩ := hl₁'
  rw [List.drop_zero]
  have hfl : (items.toList.take i).length = i := by rw [List.length_take, Array.length_toList]; omega
  rw [if_neg (show ¬ ((items.toList.take i).length < i) by rw [hfl]; omega)]
  refine wpAny_bind (wpAny_holding (PySem.W.kun_collect (s := { s with heap := h₁ }) (T := "tuple_iterator") (.inr (.inr (.inr rfl))) (Walks.tuple (A := A.in1) hh s.heap.objs.size l hlt items) (fun j u st => st.1.typeIs) (k := i) (by omega) ⟨hit₁, hl₁⟩ (Heap.lt_size hoi) (Heap.lt_size hol) (fun h₂ tk hk => ?_) hz))
  have hrl : (items.toList.drop i).length = items.size - i := by rw [List.length_drop, Array.length_toList]
  have hmid : (items.toList.drop i).length - (n - 1 - i) = items.size + 1 - n := by rw [hrl]; omega
  show wpAny _ _ (if (items.toList.drop i).length < n - 1 - i then _ else _) _ _ _
  rw [if_neg (by rw [hrl]; omega)]
  show wpAny _ _ (newList ((items.toList.drop i).take ((items.toList.drop i).length - (n - 1 - i))) >>= fun d => pure (items.toList.take i ++ [d] ++ (items.toList.drop i).drop ((items.toList.drop i).length - (n - 1 - i)))) _ _ _
  rw [hmid]
  have he : Heap.ExtBut s.heap.objs.size s.heap h₂ := fun b o hb e => hk b o hb (hs₁.extBut b o hb (Heap.get?_push_of_some _ e))
  exact wpAny_bind (wpAny_newList (wpAny_pure (h h₂ tk he)) (by rw [List.length_take, hrl]; omega))
def tStarR (K : PySem.W.Frag) (i j : Nat) (te : TE) : TS := fun D σ H => te σ H fun v H1 => ∃ a x0 xs, v = .ref a ∧ (SqL K H1 a (x0 :: xs) ∨ SqT K H1 a (x0 :: xs)) ∧ ∀ p, H1 p = none → D.nx ((σ.set i (some x0)).set j (some (.ref p))) (upd H1 p (.lst xs))
theorem ps_starR {i j : Nat} {x y : Str} {e : Expr} {te : TE} {p1 p2 p3 pt pos : Pos} {kt : Nat} (hc : X.calm = true) (hN : X.N.Nodup) (hi : X.N[i]? = some x) (hj : X.N[j]? = some y) (hx : Loc X.env.scope x) (hy : Loc X.env.scope y) (fx : X.fn x = true ∨ X.env.scope.names.lookup x = some .local) (fy : X.fn y = true ∨ X.env.scope.names.lookup y = some .local) (he : PE X e te)
    (hs : swapsWithSole [.Tuple [.Name x p1, .Starred (.Name y p2) p3] kt pt] e pos.line X.env = pure false := by rfl) (hw : swappedStores [.Tuple [.Name x p1, .Starred (.Name y p2) p3] kt pt] e X.env = pure none := by rfl) :
    PS X (.Assign [.Tuple [.Name x p1, .Starred (.Name y p2) p3] kt pt] e pos) (tStarR X.K i j te) := by
  refine ⟨fun pins s σ H D I h => ?_⟩
  refine wpAny_Assign_stores (thn (he.run pins s σ H _ I h) fun v s1 ⟨w, H1, I1, r1, a, x0, xs, ew, hq, q⟩ => ?_) hs hw
  subst ew
  obtain rfl : v = Value.ref a := r1
  rw [show (assignEach [.Tuple [.Name x p1, .Starred (.Name y p2) p3] kt pt] X.env).map (·.2) = [assign (.Tuple [.Name x p1, .Starred (.Name y p2) p3] kt pt) X.env] from rfl]
  show wpAny _ _ (assign (.Tuple [.Name x p1, .Starred (.Name y p2) p3] kt pt) X.env (.ref a)) _ _ _
  have fin : ∀ (its : List Value) (h' : Heap) (tk : Nat), Vals (x0 :: xs) its → (x0 :: xs).length ≤ sizeLine → Heap.ExtBut s1.heap.objs.size s1.heap h' →
      wpAny (model X.prog X.w) X.A (assignInOrder ((assignEach [.Name x p1, .Name y p2] X.env).map (·.2)) (its.take 1 ++ [.ref h'.objs.size] ++ (its.drop 1).drop (its.length + 1 - 2)))
        (fun _ s' => SP X pins D Flow.next s') X.xe { s1 with heap := h'.push { cls := .type "list", data := .seq ((its.drop 1).take (its.length + 1 - 2)).toArray }, toks := tk } := by
    intro its h' tk rv hz he'
    cases rv with
    | @cons _ u _ us ru rus =>
      have el : (u :: us).length + 1 - 2 = us.length := by simp
      have I2 := I1.kept (h' := h') (t' := tk) fun b o e => he' b o (Nat.ne_of_lt (Heap.lt_size e)) e
      have hf : H1 h'.objs.size = none := I2.hok.fresh (Nat.le_refl _)
      have I3 := I2.laid (t' := tk) (h' := h'.push { cls := .type "list", data := .seq us.toArray }) (a := h'.objs.size) (o := .lst xs) (fun b u e => Heap.get?_push_of_some _ e) (Nat.le_refl _) ⟨by have : (x0 :: xs).length = xs.length + 1 := rfl; omega, us, 0, rus, Heap.get?_push_size _ rfl⟩
      have hp : PGs X [.Name x p1, .Name y p2] (gCons (gName i) (gCons (gName j) gNil)) := pgs_cons (pg_name hN hi hx (hf := fx)) (pgs_cons (pg_name hN hj hy (hf := fy)) pgs_nil)
      have e1 : List.take 1 (u :: us) ++ [Value.ref h'.objs.size] ++ List.drop ((u :: us).length + 1 - 2) (List.drop 1 (u :: us)) = [u, .ref h'.objs.size] := by
        rw [el]; simp
      have e2 : List.take ((u :: us).length + 1 - 2) (List.drop 1 (u :: us)) = us := by
        rw [el]; simp
      rw [e1, e2]
      refine thn (hp.run pins _ σ _ [x0, .ref h'.objs.size] [u, .ref h'.objs.size] (fun σ' H' => D.nx σ' H') I3 (.cons ru (.cons rfl .nil)) ?_) fun _ s2 q2 => q2
      exact ⟨x0, _, rfl, .ref h'.objs.size, _, rfl, rfl, q _ hf⟩
  rw [PyProof.Rows.assign_Tuple]
  refine wpAny_bind (wpAny_standAt ?_)
  unfold unpack
  rw [show (assignEach [.Name x p1, .Starred (.Name y p2) p3] X.env).length = 2 from rfl, show (assignEach [.Name x p1, .Starred (.Name y p2) p3] X.env).findIdx? (·.1) = some 1 from rfl]
  rw [show (assignEach [.Name x p1, .Starred (.Name y p2) p3] X.env).map (·.2) = (assignEach [.Name x p1, .Name y p2] X.env).map (·.2) from rfl]
  rcases hq with hq | hq
  · obtain ⟨its, rv, pl, hz⟩ := I1.list hq
    have hsz : its.toArray.size = its.length := by simp
    have hlen : its.length = xs.length + 1 := rv.length.symm
    refine wpAny_bind (wpAny_holding (star_list (X := X) pl.isList (I.ok.hd hc) (by decide) (by rw [hsz]; omega) (by rw [hsz, hlen]; exact hz) fun h' tk he' => ?_))
    have z := fin its h' tk rv hz he'
    simpa using z
  · obtain ⟨its, rv, pl, hz⟩ := I1.tuple hq
    have hsz : its.toArray.size = its.length := by simp
    have hlen : its.length = xs.length + 1 := rv.length.symm
    refine wpAny_bind (wpAny_holding (star_tup (X := X) pl (I.ok.hd hc) (by decide) (by rw [hsz]; omega) (by rw [hsz, hlen]; exact hz) fun h' tk he' => ?_))
    have z := fin its h' tk rv hz he'
    simpa using z
def seqF (l : L) : Option (List T) := match itemsF l with
  | some ts => some ts
  | none => itemsFT l
theorem seqF_ok {F H : Hp} {l : L} {v : V} {A : List Addr} {ts : List T} (h : RL K F H l v A) (fh : Same F H) (e : seqF l = some ts) : ∃ a vs, v = .ref a ∧ (SqL K H a vs ∨ SqT K H a vs) ∧ RTs K F ts vs := by
  unfold seqF at e
  split at e
  · rename_i ts2 e2
    cases e
    obtain ⟨a, vs, h1, h2, h3⟩ := itemsF_ok h fh e2
    exact ⟨a, vs, h1, .inl (.inl (.inl h2)), h3⟩
  · unfold itemsFT at e
    split at e
    · cases e
      obtain ⟨_, a, vs, ev, ha, hv⟩ := h
      exact ⟨a, vs, ev, .inr (seqT_same fh ha), hv⟩
    · rename_i ls
      split at e
      · rename_i hf
        cases e
        obtain ⟨a, vs, B, ev, eA, ha, hv⟩ := h
        rw [fz_of_all hf] at hv
        exact ⟨a, vs, ev, .inr (.inl (.inl ha)), hv.fz_inv.2⟩
      · cases e
    · cases e
theorem Ok.star {F H F1 H1 : Hp} {S : S} {σ : L2.St} {A : List Addr} {p : Addr} {ts : List T} {xs : List V} (k : Ok K F H S σ A) (r1 : RP K F H F1 H1) (hp : H1 p = none) (h : RTs K F1 ts xs) :
    RP K F H (upd F1 p (.lst xs)) (upd H1 p (.lst xs)) ∧ RT K (upd F1 p (.lst xs)) (.lst ts) (.ref p) := by
  have fp := Same.no r1.fh hp
  refine ⟨r1.trans ⟨upd_freshH hp, upd_fresh fp, same_upd r1.fh, fun a n => ?_⟩, p, xs, rfl, upd_same, h.mono (upd_fresh fp)⟩
  by_cases hb : a = p
  · subst hb; exact .inr hp
  · rw [upd_ne hb] at n; exact .inl n
def sStarR (i j : Nat) (m : MR) : MS := fun e S => m S fun l _ => ∃ t ts, seqF l = some (t :: ts) ∧ i < S.length ∧ j < S.length ∧ e.nx ((S.set i (some (.fz t))).set j (some (.fz (.lst ts))))
theorem ls_starR {st : Stmt} {i j : Nat} {m : MR} (h : PS X st (tStarR K i j (liftR K m))) : PS X st (liftS K EX (sStarR i j m)) := psW h fun D σ H ⟨F, S, A, k, e, q, c⟩ =>
  ⟨F, S, A, _, k, q, fun l o ⟨t, ts, el, hi, hj, g⟩ v F1 H1 B r1 h1 o1 => by
    obtain ⟨a, vs, ev, hs, x0, xs, e2, h2, h3⟩ := seqF_ok h1 r1.fh el
    subst e2
    refine ⟨a, x0, xs, ev, hs, fun p hp => ?_⟩
    obtain ⟨r2, hl⟩ := k.star r1 hp h3
    have fp := Same.no r1.fh hp
    obtain ⟨A2, k2, s2⟩ := (k.rp r2).setF (i := i) (t := t) (v := x0) (h2.mono (upd_fresh fp)) hi
    obtain ⟨A3, k3, s3⟩ := k2.setF (i := j) (t := .lst ts) (v := .ref p) hl (by simpa using hj)
    exact c.nx _ _ _ _ A3 k3 (r2.step.sub fun x hx => .inl (s2 x (s3 x hx))) g⟩
end
end HTr
set_option maxHeartbeats 1000000
namespace HTr
open PySem L2 PySem.Spec PyProof.Rows
def keyLe : Key → Key → Bool
  | .inl i, .inl j => decide (i ≤ j)
  | .inr x, .inr y => !decide (y.cps.toList < x.cps.toList)
  | _, _ => false
def leK : List Key → List Key → Bool
  | [], _ => true
  | _ :: _, [] => false
  | a :: as, b :: bs => if a = b then leK as bs else keyLe a b
theorem lexAt_shift {e r : Nat → Bool} {z : Bool} : ∀ (k i : Nat), Ob.lexAt e r z (i + 1) k = Ob.lexAt (fun j => e (j + 1)) (fun j => r (j + 1)) z i k
  | 0, i => rfl
  | k + 1, i => by
    rw [Ob.lexAt_succ, Ob.lexAt_succ, lexAt_shift k (i + 1)]
theorem leK_lex : ∀ (as bs : List Key), Ob.lexAt (fun j => decide (as[j]? = bs[j]?)) (fun j => match as[j]?, bs[j]? with | some a, some b => keyLe a b | _, _ => false) (decide (as.length ≤ bs.length)) 0 (min as.length bs.length) = leK as bs
  | [], bs => by simp [Ob.lexAt_zero, leK]
  | a :: as, [] => by simp [Ob.lexAt_zero, leK]
  | a :: as, b :: bs => by
    have h := leK_lex as bs
    rw [List.length_cons, List.length_cons, Nat.succ_min_succ, Ob.lexAt_succ, lexAt_shift]
    unfold leK
    simp only [List.getElem?_cons_zero, List.getElem?_cons_succ, Option.some.injEq, decide_eq_true_eq]
    by_cases e : a = b
    · rw [if_pos e, if_pos e, ← h]
      have e2 : decide (as.length + 1 ≤ bs.length + 1) = decide (as.length ≤ bs.length) := by simp
      rw [e2]
    · rw [if_neg e, if_neg e]
def rLeM (K : PySem.W.Frag) : R2 := fun x y H Q => ∃ (a b : Addr) (ks ls : List Key) (shape : Nat → Bool), x = .ref a ∧ y = .ref b ∧ SqT K H a (ks.map kV) ∧ SqT K H b (ls.map kV) ∧ shp shape 0 ks = true ∧ shp shape 0 ls = true ∧ Q (.bl (leK ks ls)) H
theorem shp_at {shape : Nat → Bool} : ∀ {ks : List Key} {i j : Nat} {k : Key}, shp shape i ks = true → ks[j]? = some k → (match k with | .inl _ => shape (i + j) = false | .inr _ => shape (i + j) = true)
  | [], i, j, k, _, e => by simp at e
  | .inl n :: ks, i, j, k, h, e => by
    unfold shp at h
    rw [Bool.and_eq_true] at h
    cases j with
    | zero => simp at e; subst e; simpa using h.1
    | succ j =>
      have := shp_at (i := i + 1) (j := j) h.2 (by simpa using e)
      rw [show i + (j + 1) = i + 1 + j by omega]; exact this
  | .inr n :: ks, i, j, k, h, e => by
    unfold shp at h
    rw [Bool.and_eq_true] at h
    cases j with
    | zero => simp at e; subst e; simpa using h.1
    | succ j =>
      have := shp_at (i := i + 1) (j := j) h.2 (by simpa using e)
      rw [show i + (j + 1) = i + 1 + j by omega]; exact this
theorem vals_at {vs : List V} {us : List Value} (h : Vals vs us) : ∀ {j : Nat} {v : V}, vs[j]? = some v → ∃ u, us[j]? = some u ∧ RelV v u := by
  induction h with
  | nil => intro j v e; simp at e
  | cons r _ ih =>
    intro j v e
    cases j with
    | zero => simp at e; subst e; exact ⟨_, by simp, r⟩
    | succ j =>
      obtain ⟨u, h1, h2⟩ := ih (j := j) (by simpa using e)
      exact ⟨u, by simpa using h1, h2⟩
theorem op_leM {X : Cx} (hu : X.A.units < cLine) : OpR X (compareOp .LtE) (rLeM X.K) := by
  intro pins s σ H x y v u Q I rx ry h
  obtain ⟨a, b, ks, ls, shape, rfl, rfl, ha, hb, h1, h2, q⟩ := h
  cases rx
  cases ry
  obtain ⟨its, r1, p1, _⟩ := I.tuple ha
  obtain ⟨its2, r2, p2, _⟩ := I.tuple hb
  have e1 : its.toArray.size = ks.length := by rw [List.size_toArray, ← r1.length, List.length_map]
  have e2 : its2.toArray.size = ls.length := by rw [List.size_toArray, ← r2.length, List.length_map]
  have get : ∀ {ks : List Key} {its : List Value} {j : Nat}, Vals (ks.map kV) its → (h : j < its.toArray.size) → ∃ k, ks[j]? = some k ∧ RelV (kV k) its.toArray[j] := by
    intro ks its j r h
    have hl : j < ks.length := by rw [List.size_toArray, ← r.length, List.length_map] at h; exact h
    obtain ⟨u, e, ru⟩ := vals_at r (j := j) (v := kV ks[j]) (by rw [List.getElem?_map, List.getElem?_eq_getElem hl]; rfl)
    refine ⟨ks[j], List.getElem?_eq_getElem hl, ?_⟩
    have : its.toArray[j] = u := by
      have h' : j < its.length := by simpa using h
      rw [List.getElem?_eq_getElem h'] at e
      simpa using Option.some.inj e
    rw [this]; exact ru
  have R := Ob.RcOp.tuples_le (A := X.A) (s := s) (e := fun j => decide (ks[j]? = ls[j]?)) (r := fun j => match ks[j]?, ls[j]? with | some a, some b => keyLe a b | _, _ => false) p1 p2 hu (fun j g1 g2 => by
    obtain ⟨k, f1, f2⟩ := get r1 g1
    obtain ⟨l, f3, f4⟩ := get r2 g2
    have s1 := shp_at h1 f1
    have s2 := shp_at h2 f3
    rw [f1, f3]
    cases k with
    | inl i =>
      cases l with
      | inl i2 =>
        obtain ⟨t, et⟩ := f2
        obtain ⟨t', et'⟩ := f4
        rw [et, et']
        have z : (i == i2) = decide (some (Sum.inl i : Key) = some (Sum.inl i2)) := by
          by_cases q : i = i2
          · subst q; simp
          · simp [q]
        rw [← z]
        exact SeqAt.EqAt.int_int _ _ _ _
      | inr x => simp only at s1 s2; rw [s1] at s2; cases s2
    | inr x =>
      cases l with
      | inl i2 => simp only at s1 s2; rw [s1] at s2; cases s2
      | inr y =>
        obtain ⟨t, et⟩ := f2
        obtain ⟨t', et'⟩ := f4
        rw [et, et']
        have z : (x == y) = decide (some (Sum.inr x : Key) = some (Sum.inr y)) := by
          by_cases q : x = y
          · subst q; simp
          · simp [q]
        rw [← z]
        exact SeqAt.EqAt.str_str _ _ _ _) (fun j g1 g2 _ => by
    obtain ⟨k, f1, f2⟩ := get r1 g1
    obtain ⟨l, f3, f4⟩ := get r2 g2
    have s1 := shp_at h1 f1
    have s2 := shp_at h2 f3
    rw [f1, f3]
    cases k with
    | inl i =>
      cases l with
      | inl i2 =>
        obtain ⟨t, et⟩ := f2
        obtain ⟨t', et'⟩ := f4
        rw [et, et']
        exact Ob.RcOp.le_int _ _ _ _
      | inr x => simp only at s1 s2; rw [s1] at s2; cases s2
    | inr x =>
      cases l with
      | inl i2 => simp only at s1 s2; rw [s1] at s2; cases s2
      | inr y =>
        obtain ⟨t, et⟩ := f2
        obtain ⟨t', et'⟩ := f4
        rw [et, et']
        exact fun prog w E Q hq => PySem.P.le_str hq)
  rw [e1, e2, leK_lex] at R
  have z : wpAny (model X.prog X.w) X.A (compareOp .LtE (.ref a) (.ref b)) (EP X pins σ Q) X.xe s := R X.prog X.w X.xe (EP X pins σ Q) ⟨.bl _, H, I, rfl, q⟩
  exact z
section
variable {X : Cx} {K : PySem.W.Frag}
def fLeM (l l' : L) (G : L → Prop) : Prop := ∃ (ks ls : List Key) (shape : Nat → Bool), l = .fz (tkey ks) ∧ l' = .fz (tkey ls) ∧ shp shape 0 ks = true ∧ shp shape 0 ls = true ∧ G (.fz (.bl (leK ks ls)))
theorem og_leM : OpG K (rLeM K) fLeM := by
  rintro F H x y l l' A B Q G fh h1 h2 ⟨ks, ls, shape, rfl, rfl, s1, s2, g⟩ o
  obtain ⟨a, rfl, h3⟩ := h1.2.key
  obtain ⟨b, rfl, h4⟩ := h2.2.key
  exact ⟨a, b, ks, ls, shape, rfl, rfl, seqT_same fh h3, seqT_same fh h4, s1, s2, o.atom fh g rfl⟩
def fIntS (ls : List L) (G : L → Prop) : Prop := match ls with
  | [.fz (.str a)] => ∃ n, PySem.intText? a = some n ∧ a.length ≤ 640 ∧ G (.fz (.int n))
  | _ => fInt ls G
theorem cg_intS : CaG K (fun xs H Q => (∃ a n, xs = [.str a] ∧ PySem.intText? a = some n ∧ a.length ≤ 640 ∧ Q (.int n) H) ∨ ((∃ i, xs = [.int i] ∧ Q (.int i) H) ∨ ∃ k, xs = [.bl k] ∧ Q (.int (if k then 1 else 0)) H)) fIntS := by
  intro F H vs ls B Q G fh h g o
  unfold fIntS at g
  split at g
  · rename_i a
    obtain ⟨n, h1, h2, g⟩ := g
    obtain ⟨e1, e2⟩ := RLs.atoms1 (v := .str a) rfl h
    exact .inl ⟨a, n, e1, h1, h2, o.atom fh g rfl⟩
  · exact .inr (cg_int F H vs ls B Q G fh h g o)
theorem ca_intS : CallR X (.type "int") (fun xs H Q => (∃ a n, xs = [.str a] ∧ PySem.intText? a = some n ∧ a.length ≤ 640 ∧ Q (.int n) H) ∨ ((∃ i, xs = [.int i] ∧ Q (.int i) H) ∨ ∃ k, xs = [.bl k] ∧ Q (.int (if k then 1 else 0)) H)) := call_int_str.or call_int1
end
end HTr
namespace W
open PySem L2 HTr
def gq_Web_1_arrows_marks {α : Type} (us mv ws : List α) : List α := match us, mv, ws with | [a0], [], [w0, w1] => [a0, w0, w1] | _, _, _ => []
def gp_Web_1_arrows_marks {α : Type} (us mv ws : List α) : List α := match us, mv, ws with | [s, a0], [], [w0, w1] => [s, a0, w0, w1] | _, _, _ => []
abbrev gt_Web_1_arrows_marks (ts us : List T) : List T := gq_Web_1_arrows_marks ts [] us
abbrev gv_Web_1_arrows_marks (vs zs : List V) : List V := gq_Web_1_arrows_marks vs [] zs
theorem he_Web_1_arrows_marks : ∀ x vs zs, vs.length = 1 → zs.length = 2 → gp_Web_1_arrows_marks (x :: vs) [] zs = x :: gv_Web_1_arrows_marks vs zs := by
  intro x vs zs h1 h2
  match vs, zs, h1, h2 with
  | [a0], [w0, w1], _, _ => rfl
theorem hT_Web_1_arrows_marks {K : PySem.W.Frag} : ∀ F ts us vs zs, RTs K F ts vs → RTs K F us zs → ts.length = 1 → us.length = 2 → RTs K F (gt_Web_1_arrows_marks ts us) (gv_Web_1_arrows_marks vs zs) := by
  intro F ts us vs zs h1 h2 l1 l2
  match ts, us, l1, l2, h1, h2 with
  | [t0], [u0, u1], _, _, h1, h2 =>
    obtain ⟨x0, r0, e0, h0', c0⟩ := h1
    have f1 : _ = [] := c0
    obtain ⟨y0, s0, g0, k0', d0⟩ := h2
    obtain ⟨y1, s1, g1, k1', d1⟩ := d0
    have f2 : _ = [] := d1
    subst f1 f2 g1 g0 e0
    exact ⟨_, _, rfl, h0', ⟨_, _, rfl, k0', ⟨_, _, rfl, k1', rfl⟩⟩⟩
abbrev N_is_colour : List Str := ["text"]
abbrev ps_is_colour : List Str := ["text"]
def m_is_colour : MS :=
  (sRet (rAndV (rOp (fEq false) (rCa fLen (aCons (rVar 0) aNil)) (rC (.int 1))) (rOp (fInStr false) (rVar 0) (rC (.str "abc")))))
abbrev N_is_mark : List Str := ["text"]
abbrev ps_is_mark : List Str := ["text"]
def m_is_mark : MS :=
  (sRet (rAndV (rOp (fEq false) (rCa fLen (aCons (rVar 0) aNil)) (rC (.int 1))) (rOp (fInStr false) (rVar 0) (rC (.str "pqr")))))
abbrev N_law_box : List Str := ["_law_script", "_law_knot", "_law_cell"]
abbrev ps_law_box : List Str := ["_law_script"]
def m_law_box : MS :=
  (sSeq (sSet 1 (rOp fAdd (rC (.int 9147)) (rOp (fI CM fun i j => i * j) (rC (.int 61)) (rCa fLen (aCons (rSl (rVar 0) oNone (oSome (rC (.int 63)))) aNil)))))
  (sSeq (sForS (rSl (rVar 0) oNone (oSome (rC (.int 63)))) (gSlot 2)
  (sSet 1 (rOp (fI (fun _ j => 0 < j) fun i j => i % j) (rOp fAdd (rOp fAdd (rOp (fI CM fun i j => i * j) (rVar 1) (rC (.int 40014))) (rOp (fI (fun _ j => 0 < j) fun i j => i % j) (rVar 2) (rC (.int 2147483563)))) (rC (.int 7))) (rC (.int 2147483563)))))
  (sRet (rLst (aCons (rCa fList (aCons (rSl (rVar 0) oNone (oSome (rC (.int 63)))) aNil)) (aCons (rC (.int 0)) (aCons (rC (.int 0)) (aCons (rVar 1) aNil))))))))
abbrev N_law_take : List Str := ["_law_box_here", "_law_many", "_law_seed", "_law_cell", "_law_got"]
abbrev ps_law_take : List Str := ["_law_box_here", "_law_many"]
def m_law_take : MS :=
  (sSeq (sIf (tsAnd (tsV (rOp (fEq false) (HTr.rIx (rVar 0) (rC (.int 2))) (rC (.int 0)))) (tsV (rOp (fCmp fun i j => decide (i < j)) (HTr.rIx (rVar 0) (rC (.int 1))) (rCa fLen (aCons (HTr.rIx (rVar 0) (rC (.int 0))) aNil)))))
  (sSeq (sSet 3 (HTr.rIx (HTr.rIx (rVar 0) (rC (.int 0))) (HTr.rIx (rVar 0) (rC (.int 1)))))
  (sSeq (sIx (rOp fAdd (HTr.rIx (rVar 0) (rC (.int 1))) (rC (.int 1))) (pVar 0) (rC (.int 1)))
  (sIf (tsV (rOp (fCmp fun i j => decide (j ≤ i)) (rVar 3) (rOp (fI CPow fun i j => i ^ j.toNat) (rC (.int 10)) (rC (.int 18)))))
  (sIx (rVar 3) (pVar 0) (rC (.int 2)))
  (sIx (rOp (fI (fun _ j => 0 < j) fun i j => i % j) (rOp fAdd (rOp fAdd (rOp (fI CM fun i j => i * j) (HTr.rIx (rVar 0) (rC (.int 3))) (rC (.int 40692))) (rOp (fI CM fun i j => i * j) (rOp (fI (fun _ j => 0 < j) fun i j => i % j) (rVar 3) (rC (.int 2147483563))) (rC (.int 53)))) (HTr.rIx (rVar 0) (rC (.int 1)))) (rC (.int 2147483563))) (pVar 0) (rC (.int 3))))))
  sNext)
  (sSeq (sIf (tsV (rOp (fCmp fun i j => decide (j < i)) (HTr.rIx (rVar 0) (rC (.int 2))) (rC (.int 0))))
  (sSeq (sSet 4 (rOp (fI (fun _ j => 0 < j) fun i j => i % j) (HTr.rIx (rVar 0) (rC (.int 2))) (rVar 1)))
  (sSeq (sIx (rOp (fI CDv fun i j => i / j) (HTr.rIx (rVar 0) (rC (.int 2))) (rVar 1)) (pVar 0) (rC (.int 2)))
  (sRetV 4)))
  sNext)
  (sSeq (sSet 2 (HTr.rIx (rVar 0) (rC (.int 3))))
  (sSeq (sIx (rOp (fI (fun _ j => 0 < j) fun i j => i % j) (rOp fAdd (rOp fAdd (rOp (fI CM fun i j => i * j) (rVar 2) (rVar 2)) (rOp (fI CM fun i j => i * j) (rVar 2) (rC (.int 39373)))) (rC (.int 90001))) (rC (.int 2147483563))) (pVar 0) (rC (.int 3)))
  (sRet (rOp (fI (fun _ j => 0 < j) fun i j => i % j) (rOp fAdd (rOp (fI CDv fun i j => i / j) (HTr.rIx (rVar 0) (rC (.int 3))) (rC (.int 59))) (rOp (fI CM fun i j => i * j) (rOp (fI (fun _ j => 0 < j) fun i j => i % j) (HTr.rIx (rVar 0) (rC (.int 3))) (rC (.int 8117))) (rC (.int 211)))) (rVar 1)))))))
abbrev N_law_same : List Str := ["_law_found", "_law_due", "_law_one_here", "_law_other"]
abbrev ps_law_same : List Str := ["_law_found", "_law_due"]
def m_law_same (sp_law_same : SpT) : MS :=
  (sSeq (sIf (tsV (rOp (fIsN false) (rVar 1) (rC .non)))
  (sRet (rOp (fIsN false) (rVar 0) (rC .non)))
  sNext)
  (sSeq (sIf (tsOr (tsV (rIs "list" (rVar 1))) (tsV (rIs "tuple" (rVar 1))))
  (sSeq (sIf (tsOr (tsV (rOp (fEq true) (rIs "list" (rVar 0)) (rIs "list" (rVar 1)))) (tsV (rOp (fEq true) (rIs "tuple" (rVar 0)) (rIs "tuple" (rVar 1)))))
  (sRet (rC (.bl false)))
  sNext)
  (sRet (rAndV (rOp (fEq false) (rCa fLen (aCons (rVar 0) aNil)) (rCa fLen (aCons (rVar 1) aNil))) (rCa (fBools fun bs => bs.all id) (aCons (rCompZA (aCons (rVar 0) (aCons (rVar 1) aNil)) (gTupT (gsCons (gSlot 2) (gsCons (gSlot 3) gsNil)) 2) cYes (rCall sp_law_same [] (aCons (rVar 2) (aCons (rVar 3) aNil))) [2, 3]) aNil)))))
  sNext)
  (sSeq (sIf (tsOr (tsV (rOp (fEq true) (rIs "bool" (rVar 1)) (rIs "bool" (rVar 0)))) (tsV (rOp (fEq true) (rIs "int" (rVar 1)) (rIs "int" (rVar 0)))))
  (sRet (rC (.bl false)))
  sNext)
  (sRet (rAndV (rOp (fEq false) (rIs "str" (rVar 0)) (rIs "str" (rVar 1))) (rOp (fEq false) (rVar 0) (rVar 1)))))))
abbrev N_law_unlike : List Str := ["_law_some", "_law_found", "_law_one_here"]
abbrev ps_law_unlike : List Str := ["_law_some"]
def m_law_unlike : MS :=
  (sSeq (sSet 1 (rLst aNil))
  (sSeq (sForS (rCa fSorted (aCons (rVar 0) aNil)) (gSlot 2)
  (sIf (tsOr (tsV (rOp (fEq false) (rVar 1) (rLst aNil))) (tsV (rOp (fEq true) (HTr.rIx (rVar 1) (rC (.int (-1)))) (rVar 2))))
  (sMut fAppend (pVar 1) (aCons (rVar 2) aNil))
  sNext))
  (sRetV 1)))
abbrev N_Web_init : List Str := ["self", "points", "arrows", "marks", "at", "colour", "one", "other", "mark", "point"]
abbrev ps_Web_init : List Str := ["self", "points", "arrows", "marks"]
def m_Web_init (sp_is_colour : SpT) (sp_is_mark : SpT) (CWeb : Nat) : MS :=
  (sSeq (sIf (tsNot (tsV (rChain (fCmp fun i j => decide (i ≤ j)) (fCmp fun i j => decide (i ≤ j)) (rC (.int 0)) (rVar 1) (rC (.int 81)))))
  sNever
  sNext)
  (sSeq (sForE (aCons (rVar 2) aNil) (gTupT (gsCons (gSlot 4) (gsCons (gTupT (gsCons (gSlot 5) (gsCons (gSlot 6) (gsCons (gSlot 7) gsNil))) 3) gsNil)) 2)
  (sIf (tsOr (tsNot (tsV (rCall sp_is_colour [] (aCons (rVar 5) aNil)))) (tsOr (tsNot (tsV (rChain (fCmp fun i j => decide (i ≤ j)) (fCmp fun i j => decide (i < j)) (rC (.int 0)) (rVar 6) (rVar 1)))) (tsNot (tsV (rChain (fCmp fun i j => decide (i ≤ j)) (fCmp fun i j => decide (i < j)) (rC (.int 0)) (rVar 7) (rVar 1))))))
  sNever
  sNext))
  (sSeq (sForE (aCons (rVar 3) aNil) (gTupT (gsCons (gSlot 4) (gsCons (gTupT (gsCons (gSlot 8) (gsCons (gSlot 9) gsNil)) 2) gsNil)) 2)
  (sIf (tsOr (tsNot (tsV (rCall sp_is_mark [] (aCons (rVar 8) aNil)))) (tsNot (tsV (rChain (fCmp fun i j => decide (i ≤ j)) (fCmp fun i j => decide (i < j)) (rC (.int 0)) (rVar 9) (rVar 1)))))
  sNever
  sNext))
  (sSeq (HTr.sFld CWeb "many" (pVar 0) (rVar 1))
  (sSeq (HTr.sFld CWeb "spots_there" (pVar 0) (rLstR1 (rVar 1)))
  (sSeq (HTr.sFld CWeb "arrow_list" (pVar 0) (rPinned (rSortSet (rVar 2) (gTupT (gsCons (gSlot 5) (gsCons (gSlot 6) (gsCons (gSlot 7) gsNil))) 3) cYes (rTup (aCons (rVar 5) (aCons (rVar 6) (aCons (rVar 7) aNil)))) [5, 6, 7])))
  (sSeq (HTr.sFld CWeb "mark_list" (pVar 0) (rSortSet (rVar 3) (gTupT (gsCons (gSlot 8) (gsCons (gSlot 9) gsNil)) 2) cYes (rTup (aCons (rVar 8) (aCons (rVar 9) aNil))) [8, 9]))
  (sSeq (HTr.sFld CWeb "onward" (pVar 0) (rDnew true))
  (sSeq (HTr.sFld CWeb "backward" (pVar 0) (rDnew true))
  (sForP CWeb 0 "arrow_list" (gTupT (gsCons (gSlot 5) (gsCons (gSlot 6) (gsCons (gSlot 7) gsNil))) 3)
  (sSeq (sSetd (pFld CWeb "onward" (pVar 0)) (aCons (rVar 5) (aCons (rVar 6) aNil)) (aCons (rVar 7) aNil))
  (sSetd (pFld CWeb "backward" (pVar 0)) (aCons (rVar 5) (aCons (rVar 7) aNil)) (aCons (rVar 6) aNil)))))))))))))
abbrev N_law_one : List Str := ["_law_box_here", "_law_some"]
abbrev ps_law_one : List Str := ["_law_box_here", "_law_some"]
def m_law_one (sp_law_take : SpT) : MS :=
  (sRet (HTr.rIx (rVar 1) (rCall sp_law_take [] (aCons (rVar 0) (aCons (rCa fLen (aCons (rVar 1) aNil)) aNil)))))
abbrev N_law_hue : List Str := ["_law_box_here"]
abbrev ps_law_hue : List Str := ["_law_box_here"]
def m_law_hue (sp_law_one : SpT) : MS :=
  (sRet (rCall sp_law_one [] (aCons (rVar 0) (aCons (rLst (aCons (rC (.str "a")) (aCons (rC (.str "a")) (aCons (rC (.str "a")) (aCons (rC (.str "b")) (aCons (rC (.str "b")) (aCons (rC (.str "c")) aNil))))))) aNil))))
abbrev N_law_sign : List Str := ["_law_box_here"]
abbrev ps_law_sign : List Str := ["_law_box_here"]
def m_law_sign (sp_law_one : SpT) : MS :=
  (sRet (rCall sp_law_one [] (aCons (rVar 0) (aCons (rLst (aCons (rC (.str "p")) (aCons (rC (.str "p")) (aCons (rC (.str "q")) (aCons (rC (.str "r")) aNil))))) aNil))))
abbrev N_law_arrow : List Str := ["_law_box_here", "_law_many"]
abbrev ps_law_arrow : List Str := ["_law_box_here", "_law_many"]
def m_law_arrow (sp_law_hue : SpT) (sp_law_take : SpT) : MS :=
  (sRet (rTup (aCons (rCall sp_law_hue [] (aCons (rVar 0) aNil)) (aCons (rCall sp_law_take [] (aCons (rVar 0) (aCons (rVar 1) aNil))) (aCons (rCall sp_law_take [] (aCons (rVar 0) (aCons (rVar 1) aNil))) aNil)))))
abbrev N_law_web : List Str := ["_law_box_here", "_law_low", "_law_high", "_law_many", "_law_crowd", "_law_my_arrows", "_law_my_marks", "_law_k"]
def m_law_web (sp_law_take : SpT) (sp_law_one : SpT) (sp_law_arrow : SpT) (sp_law_sign : SpT) (sp_law_unlike : SpT) : MS :=
  (sSeq (sSet 3 (rOp fAdd (rVar 1) (rCall sp_law_take [] (aCons (rVar 0) (aCons (rOp fAdd (rOp (fI0 fun i j => i - j) (rVar 2) (rVar 1)) (rC (.int 1))) aNil)))))
  (sSeq (sIf (tsV (rOp (fEq false) (rVar 3) (rC (.int 0))))
  (sRet (rTup (aCons (rC (.int 0)) (aCons (rLst aNil) (aCons (rLst aNil) aNil)))))
  sNext)
  (sSeq (sSet 4 (rCall sp_law_one [] (aCons (rVar 0) (aCons (rLst (aCons (rVar 3) (aCons (rVar 3) (aCons (rOp (fI CM fun i j => i * j) (rC (.int 2)) (rVar 3)) (aCons (rC (.int 3)) aNil))))) aNil))))
  (sSeq (sSet 5 (rCompR1 (aCons (rCall sp_law_take [] (aCons (rVar 0) (aCons (rOp fAdd (rVar 4) (rC (.int 1))) aNil))) aNil) (gSlot 7) cYes (rCall sp_law_arrow [] (aCons (rVar 0) (aCons (rVar 3) aNil))) [7]))
  (sSeq (sSet 6 (rCompR1 (aCons (rCall sp_law_one [] (aCons (rVar 0) (aCons (rLst (aCons (rC (.int 0)) (aCons (rC (.int 0)) (aCons (rC (.int 1)) (aCons (rC (.int 2)) (aCons (rVar 3) aNil)))))) aNil))) aNil) (gSlot 7) cYes (rTup (aCons (rCall sp_law_sign [] (aCons (rVar 0) aNil)) (aCons (rCall sp_law_take [] (aCons (rVar 0) (aCons (rVar 3) aNil))) aNil))) [7]))
  (sRet (rTup (aCons (rVar 3) (aCons (rCallT sp_law_unlike [] (aCons (rVar 5) aNil)) (aCons (rCallT sp_law_unlike [] (aCons (rVar 6) aNil)) aNil))))))))))
end W
namespace W
open PySem L2 HTr
theorem cm_of {i j : Int} (h1 : 0 ≤ i) (h2 : i < 2 ^ 199) (h3 : 0 ≤ j) (h4 : j < 2 ^ 199) : CM i j := by
  unfold CM
  omega
theorem cdv_of {i j : Int} (h1 : 0 < j) (h2 : j < 2 ^ 199) : CDv i j := ⟨h1, by omega⟩
theorem vc_take : ∀ ls G, spTake1 ls G → m_law_take (endOf ls G) (start0 N_law_take.length ls) := by
  rintro ls G ⟨b, l, xs, i, j, k, many, rfl, hi, hj, hk, hm, hG⟩
  have tail : ∀ i' j' k' : Int, 0 ≤ i' → 0 ≤ j' → 0 ≤ k' → k' < 2147483563 →
      (if 0 < j' then 0 < many ∧ CDv j' many ∧ G (L.fz (T.int (j' % many))) [L.pin b (boxL l xs i' (j' / many) k')]
       else CM k' k' ∧ CM k' 39373 ∧ CDv ((k' * k' + k' * 39373 + 90001) % 2147483563) 59 ∧ CM ((k' * k' + k' * 39373 + 90001) % 2147483563 % 8117) 211 ∧ 0 < many ∧
         G (L.fz (T.int (((k' * k' + k' * 39373 + 90001) % 2147483563 / 59 + (k' * k' + k' * 39373 + 90001) % 2147483563 % 8117 * 211) % many))) [L.pin b (boxL l xs i' j' ((k' * k' + k' * 39373 + 90001) % 2147483563))]) := by
    intro i' j' k' h1 h2 h3 h4
    have e1 : 0 ≤ (k' * k' + k' * 39373 + 90001) % 2147483563 := Int.emod_nonneg _ (by decide)
    have e2 : (k' * k' + k' * 39373 + 90001) % 2147483563 < 2147483563 := Int.emod_lt_of_pos _ (by decide)
    generalize (k' * k' + k' * 39373 + 90001) % 2147483563 = y at e1 e2
    split
    · exact ⟨hm.1, cdv_of hm.1 (by omega), hG _ _ _ _ (Int.emod_nonneg _ (by omega)) (Int.emod_lt_of_pos _ hm.1) h1 (Int.ediv_nonneg h2 (by omega)) h3 h4⟩
    · refine ⟨cm_of (by omega) (by omega) (by omega) (by omega), cm_of (by omega) (by omega) (by omega) (by omega), cdv_of (by omega) (by omega), cm_of (by omega) (by omega) (by omega) (by omega), hm.1, hG _ _ _ _ (Int.emod_nonneg _ (by omega)) (Int.emod_lt_of_pos _ hm.1) h1 h2 e1 e2⟩
  by_cases hj0 : j = 0
  · by_cases hil : i < xs.length
    · obtain ⟨c, hc⟩ : ∃ c, atI (List.map T.int xs) i = some (T.int c) := by
        refine ⟨xs[i.toNat]'(by omega), ?_⟩
        rw [atI_of _ _ hi, List.getElem?_map, List.getElem?_eq_getElem (by omega)]
        rfl
      simp [hj0, hil, hc, atI_lit, ixN_lit, fAdd, fI, m_law_take, sSeq, sIf, sSet, sIx, sRetV, sRet, sNext, tsAnd, tsV, rOp, rVar, rC, HTr.rIx, ixL, start0, fEq, eqAtom, strip_pin, strip_at, strip_non, strip_bl, strip_int, strip_str, strip_ftup, strip_flst, strip_fdct, strip_fobj, strip_box, strip_scr, strip_tup, strip_lst, strip_dct, strip_obj, L.tree, L.isFz, rCa, fLen, aCons, aNil, fCmp, pVar, endOf, backs]
      refine ⟨by unfold CPow; decide, ?_⟩
      split
      · exact tail (i + 1) c k (by omega) (by omega) (by omega) (by omega)
      · have e1 : 0 ≤ (k * 40692 + c % 2147483563 * 53 + (i + 1)) % 2147483563 := Int.emod_nonneg _ (by decide)
        have e2 : (k * 40692 + c % 2147483563 * 53 + (i + 1)) % 2147483563 < 2147483563 := Int.emod_lt_of_pos _ (by decide)
        have e3 : 0 ≤ c % 2147483563 := Int.emod_nonneg _ (by decide)
        have e4 : c % 2147483563 < 2147483563 := Int.emod_lt_of_pos _ (by decide)
        refine ⟨cm_of (by omega) (by omega) (by omega) (by omega), cm_of (by omega) (by omega) (by omega) (by omega), ?_⟩
        have z := tail (i + 1) 0 _ (by omega) (Int.le_refl _) e1 e2
        simpa using z
    · simp [hj0, hil, atI_lit, ixN_lit, fAdd, fI, m_law_take, sSeq, sIf, sSet, sIx, sRetV, sRet, sNext, tsAnd, tsV, rOp, rVar, rC, HTr.rIx, ixL, start0, fEq, eqAtom, strip_pin, strip_at, strip_non, strip_bl, strip_int, strip_str, strip_ftup, strip_flst, strip_fdct, strip_fobj, strip_box, strip_scr, strip_tup, strip_lst, strip_dct, strip_obj, L.tree, L.isFz, rCa, fLen, aCons, aNil, fCmp, pVar, endOf, backs]
      have z := tail i 0 k (by omega) (by omega) (by omega) (by omega)
      simpa using z
  · simp [hj0, atI_lit, ixN_lit, fAdd, fI, m_law_take, sSeq, sIf, sSet, sIx, sRetV, sRet, sNext, tsAnd, tsV, rOp, rVar, rC, HTr.rIx, ixL, start0, fEq, eqAtom, strip_pin, strip_at, strip_non, strip_bl, strip_int, strip_str, strip_ftup, strip_flst, strip_fdct, strip_fobj, strip_box, strip_scr, strip_tup, strip_lst, strip_dct, strip_obj, L.tree, L.isFz, rCa, fLen, aCons, aNil, fCmp, pVar, endOf, backs]
    have z := tail i j k (by omega) (by omega) (by omega) (by omega)
    simpa using z
def cols : List Str := ["a", "b", "c"]
def mrks : List Str := ["p", "q", "r"]
def spCol : SpT := fun ls G => ∃ c ∈ cols, ls = [.fz (.str c)] ∧ G (.fz (.bl true)) []
def spMrk : SpT := fun ls G => ∃ c ∈ mrks, ls = [.fz (.str c)] ∧ G (.fz (.bl true)) []
theorem vc_box : ∀ ls G, spBox1 ls G → m_law_box (endOf ls G) (start0 N_law_box.length ls) := by
  rintro ls G ⟨xs, rfl, hG⟩
  unfold m_law_box
  refine seq_gen fun k1 hk1 => ?_
  simp [true_and, -List.map_take, -List.map_drop, cut_map, atI_lit, ixN_lit, fAdd, fI, fI0, sSeq, sIf, sSet, sIx, sRetV, sRet, sRetN, sNext, sDrop, sAsg, tsAnd, tsOr, tsNot, tsV, rOp, rVar, rC, HTr.rIx, ixL, start0, fEq, eqAtom, strip_pin, strip_at, strip_non, strip_bl, strip_int, strip_str, strip_ftup, strip_flst, strip_fdct, strip_fobj, strip_box, strip_scr, strip_tup, strip_lst, strip_dct, strip_obj, L.tree, L.trees, L.isFz, rCa, fLen, aCons, aNil, fCmp, pVar, endOf, backs, rAndV, rOrV, rNotV, rIf, rChain, rLst, rTup, mkTup, fInStr, fInSeq, fIsN, T.isNon, gSlot, gTupT, gsCons, gsNil, rSl, oNone, oSome, fSl, itemsF_fz, itemsF_fzc, trees_fzc, itemsF_lst, itemsF_tup, itemsF_str, itemsF_scr, itemsFT_tup, itemsFT_lst, itemsFT_str, itemsFT_scr, cut_to, frz_map, frz_cons, frz_nil, rIs, T.ty?, tyIs, rFld, look]
  refine ⟨cm_of (by omega) (by omega) (by omega) (by omega), hk1 _ ?_⟩
  refine seq_gen fun k2 hk2 => ?_
  simp [sForS, -List.map_take, -List.map_drop, cut_map, atI_lit, ixN_lit, fAdd, fI, fI0, sSeq, sIf, sSet, sIx, sRetV, sRet, sRetN, sNext, sDrop, sAsg, tsAnd, tsOr, tsNot, tsV, rOp, rVar, rC, HTr.rIx, ixL, start0, fEq, eqAtom, strip_pin, strip_at, strip_non, strip_bl, strip_int, strip_str, strip_ftup, strip_flst, strip_fdct, strip_fobj, strip_box, strip_scr, strip_tup, strip_lst, strip_dct, strip_obj, L.tree, L.trees, L.isFz, rCa, fLen, aCons, aNil, fCmp, pVar, endOf, backs, rAndV, rOrV, rNotV, rIf, rChain, rLst, rTup, mkTup, fInStr, fInSeq, fIsN, T.isNon, gSlot, gTupT, gsCons, gsNil, rSl, oNone, oSome, fSl, itemsF_fz, itemsF_fzc, trees_fzc, itemsF_lst, itemsF_tup, itemsF_str, itemsF_scr, itemsFT_tup, itemsFT_lst, itemsFT_str, itemsFT_scr, cut_to, frz_map, frz_cons, frz_nil, rIs, T.ty?, tyIs, rFld, look]
  have h0 : 0 ≤ 9147 + 61 * ((min 63 xs.length : Nat) : Int) ∧ 9147 + 61 * ((min 63 xs.length : Nat) : Int) < 2147483563 := by omega
  have fin : ∀ (k : Int) (o : Option L), 0 ≤ k → k < 2147483563 → k2 [some (L.fz (T.scr xs)), some (L.fz (T.int k)), o] := by
    intro k o h1 h2
    refine hk2 _ ?_
    simp [fList, -List.map_take, -List.map_drop, cut_map, atI_lit, ixN_lit, fAdd, fI, fI0, sSeq, sIf, sSet, sIx, sRetV, sRet, sRetN, sNext, sDrop, sAsg, tsAnd, tsOr, tsNot, tsV, rOp, rVar, rC, HTr.rIx, ixL, start0, fEq, eqAtom, strip_pin, strip_at, strip_non, strip_bl, strip_int, strip_str, strip_ftup, strip_flst, strip_fdct, strip_fobj, strip_box, strip_scr, strip_tup, strip_lst, strip_dct, strip_obj, L.tree, L.trees, L.isFz, rCa, fLen, aCons, aNil, fCmp, pVar, endOf, backs, rAndV, rOrV, rNotV, rIf, rChain, rLst, rTup, mkTup, fInStr, fInSeq, fIsN, T.isNon, gSlot, gTupT, gsCons, gsNil, rSl, oNone, oSome, fSl, itemsF_fz, itemsF_fzc, trees_fzc, itemsF_lst, itemsF_tup, itemsF_str, itemsF_scr, itemsFT_tup, itemsFT_lst, itemsFT_str, itemsFT_scr, cut_to, frz_map, frz_cons, frz_nil, rIs, T.ty?, tyIs, rFld, look]
    rw [← List.map_take]
    exact ⟨by decide, hG _ k h1 h2⟩
  have go : ∀ (ys : List Int) (k : Int) (o : Option L), 0 ≤ k → k < 2147483563 → forL (gSlot 2) (sSet 1 (rOp (fI (fun x j => 0 < j) fun i j => i % j)
      (rOp fAdd (rOp fAdd (rOp (fI CM fun i j => i * j) (rVar 1) (rC (T.int 40014))) (rOp (fI (fun x j => 0 < j) fun i j => i % j) (rVar 2) (rC (T.int 2147483563)))) (rC (T.int 7))) (rC (T.int 2147483563)))) (ys.map T.int)
      { nx := k2, rt := fun r S => ∃ ls', backs [L.fz (T.scr xs)] S = some ls' ∧ G r ls' } [some (L.fz (T.scr xs)), some (L.fz (T.int k)), o] := by
    intro ys
    induction ys with
    | nil => intro k o h1 h2; exact fin k o h1 h2
    | cons y ys ih =>
      intro k o h1 h2
      have e1 : 0 ≤ (k * 40014 + y % 2147483563 + 7) % 2147483563 := Int.emod_nonneg _ (by decide)
      have e2 : (k * 40014 + y % 2147483563 + 7) % 2147483563 < 2147483563 := Int.emod_lt_of_pos _ (by decide)
      simp [forL, -List.map_take, -List.map_drop, cut_map, atI_lit, ixN_lit, fAdd, fI, fI0, sSeq, sIf, sSet, sIx, sRetV, sRet, sRetN, sNext, sDrop, sAsg, tsAnd, tsOr, tsNot, tsV, rOp, rVar, rC, HTr.rIx, ixL, start0, fEq, eqAtom, strip_pin, strip_at, strip_non, strip_bl, strip_int, strip_str, strip_ftup, strip_flst, strip_fdct, strip_fobj, strip_box, strip_scr, strip_tup, strip_lst, strip_dct, strip_obj, L.tree, L.trees, L.isFz, rCa, fLen, aCons, aNil, fCmp, pVar, endOf, backs, rAndV, rOrV, rNotV, rIf, rChain, rLst, rTup, mkTup, fInStr, fInSeq, fIsN, T.isNon, gSlot, gTupT, gsCons, gsNil, rSl, oNone, oSome, fSl, itemsF_fz, itemsF_fzc, trees_fzc, itemsF_lst, itemsF_tup, itemsF_str, itemsF_scr, itemsFT_tup, itemsFT_lst, itemsFT_str, itemsFT_scr, cut_to, frz_map, frz_cons, frz_nil, rIs, T.ty?, tyIs, rFld, look]
      exact ⟨cm_of (by omega) (by omega) (by omega) (by omega), ih _ _ e1 e2⟩
  rw [← List.map_take]
  exact go _ _ _ h0.1 h0.2
end W
namespace W
open PySem L2 HTr
def spOne : SpT := fun ls G => ∃ (b : Nat) (ts : List T), ls = [.fz (.box b), .fz (.lst ts)] ∧ ts ≠ [] ∧ ts.length ≤ big ∧ ∀ t ∈ ts, G (.fz t) []
theorem take_use {b : Nat} {many : Int} {G : L → List L → Prop} (h1 : 0 < many) (h2 : many < 2 ^ 100) (h : ∀ r : Int, 0 ≤ r → r < many → G (.fz (.int r)) []) : spTake [.fz (.box b), .fz (.int many)] G := ⟨b, many, rfl, ⟨h1, h2⟩, h⟩
theorem vc_one : ∀ ls G, spOne ls G → m_law_one spTake (endOf ls G) (start0 N_law_one.length ls) := by
  rintro ls G ⟨b, ts, rfl, hne, hl, hG⟩
  have hp : 0 < ts.length := List.length_pos_iff.mpr hne
  simp [m_law_one, rCall, -List.map_take, -List.map_drop, cut_map, atI_lit, ixN_lit, fAdd, fI, fI0, sSeq, sIf, sSet, sIx, sRetV, sRet, sRetN, sNext, sDrop, sAsg, tsAnd, tsOr, tsNot, tsV, rOp, rVar, rC, HTr.rIx, ixL, start0, fEq, eqAtom, strip_pin, strip_at, strip_non, strip_bl, strip_int, strip_str, strip_ftup, strip_flst, strip_fdct, strip_fobj, strip_box, strip_scr, strip_tup, strip_lst, strip_dct, strip_obj, L.tree, L.trees, L.isFz, rCa, fLen, aCons, aNil, fCmp, pVar, endOf, backs, rAndV, rOrV, rNotV, rIf, rChain, rLst, rTup, mkTup, fInStr, fInSeq, fIsN, T.isNon, gSlot, gTupT, gsCons, gsNil, rSl, oNone, oSome, fSl, itemsF_fz, itemsF_fzc, trees_fzc, itemsF_lst, itemsF_tup, itemsF_str, itemsF_scr, itemsFT_tup, itemsFT_lst, itemsFT_str, itemsFT_scr, cut_to, frz_map, frz_cons, frz_nil, rIs, T.ty?, tyIs, rFld, look]
  refine take_use (by omega) (by have : big = 1000000 := rfl; omega) fun r h1 h2 => ?_
  have e : atI ts r = some (ts[r.toNat]'(by omega)) := by rw [atI_of _ _ h1, List.getElem?_eq_getElem]
  simp [e]
  exact hG _ (List.getElem_mem _)
def spHue : SpT := fun ls G => ∃ b : Nat, ls = [.fz (.box b)] ∧ ∀ c ∈ cols, G (.fz (.str c)) []
def spSign : SpT := fun ls G => ∃ b : Nat, ls = [.fz (.box b)] ∧ ∀ c ∈ mrks, G (.fz (.str c)) []
theorem one_use {b : Nat} {ts : List T} {G : L → List L → Prop} (h1 : ts ≠ []) (h2 : ts.length ≤ big) (h : ∀ t ∈ ts, G (.fz t) []) : spOne [.fz (.box b), .fz (.lst ts)] G := ⟨b, ts, rfl, h1, h2, h⟩
theorem vc_hue : ∀ ls G, spHue ls G → m_law_hue spOne (endOf ls G) (start0 N_law_hue.length ls) := by
  rintro ls G ⟨b, rfl, hG⟩
  simp [m_law_hue, rCall, -List.map_take, -List.map_drop, cut_map, atI_lit, ixN_lit, fAdd, fI, fI0, sSeq, sIf, sSet, sIx, sRetV, sRet, sRetN, sNext, sDrop, sAsg, tsAnd, tsOr, tsNot, tsV, rOp, rVar, rC, HTr.rIx, ixL, start0, fEq, eqAtom, strip_pin, strip_at, strip_non, strip_bl, strip_int, strip_str, strip_ftup, strip_flst, strip_fdct, strip_fobj, strip_box, strip_scr, strip_tup, strip_lst, strip_dct, strip_obj, L.tree, L.trees, L.isFz, rCa, fLen, aCons, aNil, fCmp, pVar, endOf, backs, rAndV, rOrV, rNotV, rIf, rChain, rLst, rTup, mkTup, fInStr, fInSeq, fIsN, T.isNon, gSlot, gTupT, gsCons, gsNil, rSl, oNone, oSome, fSl, itemsF_fz, itemsF_fzc, trees_fzc, itemsF_lst, itemsF_tup, itemsF_str, itemsF_scr, itemsFT_tup, itemsFT_lst, itemsFT_str, itemsFT_scr, cut_to, frz_map, frz_cons, frz_nil, rIs, T.ty?, tyIs, rFld, look]
  refine ⟨by decide, one_use (by simp [L.trees]) (by decide) fun t ht => ?_⟩
  simp [L.trees, L.tree] at ht
  rcases ht with rfl | rfl | rfl <;> exact hG _ (by decide)
theorem vc_sign : ∀ ls G, spSign ls G → m_law_sign spOne (endOf ls G) (start0 N_law_sign.length ls) := by
  rintro ls G ⟨b, rfl, hG⟩
  simp [m_law_sign, rCall, -List.map_take, -List.map_drop, cut_map, atI_lit, ixN_lit, fAdd, fI, fI0, sSeq, sIf, sSet, sIx, sRetV, sRet, sRetN, sNext, sDrop, sAsg, tsAnd, tsOr, tsNot, tsV, rOp, rVar, rC, HTr.rIx, ixL, start0, fEq, eqAtom, strip_pin, strip_at, strip_non, strip_bl, strip_int, strip_str, strip_ftup, strip_flst, strip_fdct, strip_fobj, strip_box, strip_scr, strip_tup, strip_lst, strip_dct, strip_obj, L.tree, L.trees, L.isFz, rCa, fLen, aCons, aNil, fCmp, pVar, endOf, backs, rAndV, rOrV, rNotV, rIf, rChain, rLst, rTup, mkTup, fInStr, fInSeq, fIsN, T.isNon, gSlot, gTupT, gsCons, gsNil, rSl, oNone, oSome, fSl, itemsF_fz, itemsF_fzc, trees_fzc, itemsF_lst, itemsF_tup, itemsF_str, itemsF_scr, itemsFT_tup, itemsFT_lst, itemsFT_str, itemsFT_scr, cut_to, frz_map, frz_cons, frz_nil, rIs, T.ty?, tyIs, rFld, look]
  refine ⟨by decide, one_use (by simp [L.trees]) (by decide) fun t ht => ?_⟩
  simp [L.trees, L.tree] at ht
  rcases ht with rfl | rfl | rfl <;> exact hG _ (by decide)
structure Arw where
  c : Str
  a : Nat
  b : Nat
deriving DecidableEq
def Arw.ok (n : Nat) (x : Arw) : Prop := x.c ∈ cols ∧ x.a < n ∧ x.b < n
def Arw.t (x : Arw) : T := .tup [.str x.c, .int x.a, .int x.b]
structure Mrk where
  c : Str
  a : Nat
deriving DecidableEq
def Mrk.ok (n : Nat) (x : Mrk) : Prop := x.c ∈ mrks ∧ x.a < n
def Mrk.t (x : Mrk) : T := .tup [.str x.c, .int x.a]
def spArrow : SpT := fun ls G => ∃ (b n : Nat), ls = [.fz (.box b), .fz (.int n)] ∧ 0 < n ∧ n ≤ big ∧ ∀ x : Arw, x.ok n → G (.fz x.t) []
theorem vc_arrow : ∀ ls G, spArrow ls G → m_law_arrow spHue spTake (endOf ls G) (start0 N_law_arrow.length ls) := by
  rintro ls G ⟨b, n, rfl, h0, hn, hG⟩
  have hb : big = 1000000 := rfl
  simp [m_law_arrow, rCall, -List.map_take, -List.map_drop, cut_map, atI_lit, ixN_lit, fAdd, fI, fI0, sSeq, sIf, sSet, sIx, sRetV, sRet, sRetN, sNext, sDrop, sAsg, tsAnd, tsOr, tsNot, tsV, rOp, rVar, rC, HTr.rIx, ixL, start0, fEq, eqAtom, strip_pin, strip_at, strip_non, strip_bl, strip_int, strip_str, strip_ftup, strip_flst, strip_fdct, strip_fobj, strip_box, strip_scr, strip_tup, strip_lst, strip_dct, strip_obj, L.tree, L.trees, L.isFz, rCa, fLen, aCons, aNil, fCmp, pVar, endOf, backs, rAndV, rOrV, rNotV, rIf, rChain, rLst, rTup, mkTup, fInStr, fInSeq, fIsN, T.isNon, gSlot, gTupT, gsCons, gsNil, rSl, oNone, oSome, fSl, itemsF_fz, itemsF_fzc, trees_fzc, itemsF_lst, itemsF_tup, itemsF_str, itemsF_scr, itemsFT_tup, itemsFT_lst, itemsFT_str, itemsFT_scr, cut_to, frz_map, frz_cons, frz_nil, rIs, T.ty?, tyIs, rFld, look]
  refine ⟨b, rfl, fun c hc => take_use (by omega) (by omega) fun r h1 h2 => take_use (by omega) (by omega) fun r2 h3 h4 => ⟨by decide, ?_⟩⟩
  obtain ⟨x, rfl⟩ := Int.eq_ofNat_of_zero_le h1
  obtain ⟨y, rfl⟩ := Int.eq_ofNat_of_zero_le h3
  have z := hG ⟨c, x, y⟩ ⟨hc, by show x < n; omega, by show y < n; omega⟩
  simpa [L.tree, Arw.t] using z
def Arw.k (x : Arw) : List Key := [.inr x.c, .inl x.a, .inl x.b]
def Mrk.k (x : Mrk) : List Key := [.inr x.c, .inl x.a]
theorem Arw.t_k (x : Arw) : x.t = tkey x.k := rfl
theorem Mrk.t_k (x : Mrk) : x.t = tkey x.k := rfl
theorem Arw.k_inj {x y : Arw} (h : x.k = y.k) : x = y := by
  cases x; cases y
  simp [Arw.k] at h
  obtain ⟨h1, h2, h3⟩ := h
  simp only [Arw.mk.injEq]
  exact ⟨h1, by omega, by omega⟩
theorem Mrk.k_inj {x y : Mrk} (h : x.k = y.k) : x = y := by
  cases x; cases y
  simp [Mrk.k] at h
  obtain ⟨h1, h2⟩ := h
  simp only [Mrk.mk.injEq]
  exact ⟨h1, by omega⟩
structure SrtA (as as' : List Arw) : Prop where
  nd : as'.Nodup
  mem : ∀ y, y ∈ as' ↔ y ∈ as
  ord : kOrd (as'.map Arw.k)
structure SrtM (as as' : List Mrk) : Prop where
  nd : as'.Nodup
  mem : ∀ y, y ∈ as' ↔ y ∈ as
  ord : kOrd (as'.map Mrk.k)
structure Wb where
  n : Nat
  as : List Arw
  ms : List Mrk
structure Wb.ok (w : Wb) : Prop where
  n81 : w.n ≤ 81
  aok : ∀ y ∈ w.as, y.ok w.n
  mok : ∀ y ∈ w.ms, y.ok w.n
  asr : SrtA w.as w.as
  msr : SrtM w.ms w.ms
def Wb.tup (w : Wb) : T := .tup [.int w.n, .lst (w.as.map Arw.t), .lst (w.ms.map Mrk.t)]
def Wb.aft (w : Wb) (c : Str) (a : Nat) : List Nat := (w.as.filter fun x => decide (x.c = c ∧ x.a = a)).map (·.b)
def Wb.bef (w : Wb) (c : Str) (b : Nat) : List Nat := (w.as.filter fun x => decide (x.c = c ∧ x.b = b)).map (·.a)
def webNs : List Str := ["many", "spots_there", "arrow_list", "mark_list", "onward", "backward"]
def dctT (k : List (List Key)) (v : List (List Nat)) : T := .dct true (k.map tkey) (v.map fun v => .lst (v.map fun (i : Nat) => .int i))
def Looks (f : Str → Nat → List Nat) (k : List (List Key)) (v : List (List Nat)) : Prop := ∀ c a, match kidx k [.inr c, .inl (a : Nat)] with
  | some j => v[j]? = some (f c a)
  | none => f c a = []
def WebT (C : Nat) (w : Wb) (t : T) : Prop := ∃ k1 v1 k2 v2, t = .obj C webNs [.int w.n, .lst (rgT 0 w.n), .lst (w.as.map Arw.t), .lst (w.ms.map Mrk.t), dctT k1 v1, dctT k2 v2] ∧ Looks w.aft k1 v1 ∧ Looks w.bef k2 v2
abbrev fzA (as : List Arw) : L := .lst ((as.map Arw.t).map .fz)
abbrev fzM (as : List Mrk) : L := .lst ((as.map Mrk.t).map .fz)
end W
namespace W
open PySem L2 HTr
def keysOk (shape : Nat → Bool) (kks : List (List Key)) : Prop := ∀ kk ∈ kks, shp shape 0 kk = true ∧ kk ≠ [] ∧ kk.all kOk = true
def spUnlike : SpT := fun ls G => ∃ (kks : List (List Key)) (shape : Nat → Bool), ls = [.fz (.lst (kks.map tkey))] ∧ kks.length ≤ big ∧ keysOk shape kks ∧
  ∀ us : List (List Key), us.Nodup → (∀ k, k ∈ us ↔ k ∈ kks) → kOrd us → G (.lst ((us.map tkey).map .fz)) []
theorem vc_unlike : ∀ ls G, spUnlike ls G → m_law_unlike (endOf ls G) (start0 N_law_unlike.length ls) := by
  rintro ls G ⟨kks, shape, rfl, hl, hk, hG⟩
  have hb : big < sizeLine := by decide
  unfold m_law_unlike
  refine seq_gen fun k1 hk1 => ?_
  simp [true_and, -List.map_take, -List.map_drop, cut_map, atI_lit, ixN_lit, fAdd, fI, fI0, sSeq, sIf, sSet, sIx, sRetV, sRet, sRetN, sNext, sDrop, sAsg, tsAnd, tsOr, tsNot, tsV, rOp, rVar, rC, HTr.rIx, ixL, start0, fEq, eqAtom, strip_pin, strip_at, strip_non, strip_bl, strip_int, strip_str, strip_ftup, strip_flst, strip_fdct, strip_fobj, strip_box, strip_scr, strip_tup, strip_lst, strip_dct, strip_obj, L.tree, L.trees, L.isFz, rCa, fLen, aCons, aNil, fCmp, pVar, endOf, backs, rAndV, rOrV, rNotV, rIf, rChain, rLst, rTup, mkTup, fInStr, fInSeq, fIsN, T.isNon, gSlot, gTupT, gsCons, gsNil, rSl, oNone, oSome, fSl, itemsF_fz, itemsF_fzc, trees_fzc, itemsF_lst, itemsF_tup, itemsF_str, itemsF_scr, itemsFT_tup, itemsFT_lst, itemsFT_str, itemsFT_scr, cut_to, frz_map, frz_cons, frz_nil, rIs, T.ty?, tyIs, rFld, look]
  refine hk1 _ ?_
  refine seq_gen fun k2 hk2 => ?_
  simp [sForS, fSorted, -List.map_take, -List.map_drop, cut_map, atI_lit, ixN_lit, fAdd, fI, fI0, sSeq, sIf, sSet, sIx, sRetV, sRet, sRetN, sNext, sDrop, sAsg, tsAnd, tsOr, tsNot, tsV, rOp, rVar, rC, HTr.rIx, ixL, start0, fEq, eqAtom, strip_pin, strip_at, strip_non, strip_bl, strip_int, strip_str, strip_ftup, strip_flst, strip_fdct, strip_fobj, strip_box, strip_scr, strip_tup, strip_lst, strip_dct, strip_obj, L.tree, L.trees, L.isFz, rCa, fLen, aCons, aNil, fCmp, pVar, endOf, backs, rAndV, rOrV, rNotV, rIf, rChain, rLst, rTup, mkTup, fInStr, fInSeq, fIsN, T.isNon, gSlot, gTupT, gsCons, gsNil, rSl, oNone, oSome, fSl, itemsF_fz, itemsF_fzc, trees_fzc, itemsF_lst, itemsF_tup, itemsF_str, itemsF_scr, itemsFT_tup, itemsFT_lst, itemsFT_str, itemsFT_scr, cut_to, frz_map, frz_cons, frz_nil, rIs, T.ty?, tyIs, rFld, look]
  refine ⟨kks, rfl, ⟨shape, fun kk h => ⟨(hk kk h).1, (hk kk h).2.1⟩⟩, fun vs pm so => ?_⟩
  have et : L.trees (vs.map fun k => L.fz (tkey k)) = vs.map tkey := trees_fzc tkey vs
  rw [et]
  have go : ∀ (rest pre acc : List (List Key)) (o : Option L), Unl acc pre → (∀ k, k ∈ pre ++ rest ↔ k ∈ kks) → (pre ++ rest).Pairwise kle → acc.length ≤ pre.length → pre.length + rest.length ≤ big →
      forL (gSlot 2) (sIf (tsOr (tsV (rOp (fEq false) (rVar 1) (rLst aNil))) (tsV (rOp (fEq true) (HTr.rIx (rVar 1) (rC (.int (-1)))) (rVar 2)))) (sMut fAppend (pVar 1) (aCons (rVar 2) aNil)) sNext) (rest.map tkey)
        { nx := k2, rt := fun r S => ∃ ls', backs [L.fz (T.lst (kks.map tkey))] S = some ls' ∧ G r ls' } [some (L.fz (T.lst (kks.map tkey))), some (L.lst ((acc.map tkey).map .fz)), o] := by
    intro rest
    induction rest with
    | nil =>
      intro pre acc o u hm _ _ _
      refine hk2 _ ?_
      simp [true_and, -List.map_take, -List.map_drop, cut_map, atI_lit, ixN_lit, fAdd, fI, fI0, sSeq, sIf, sSet, sIx, sRetV, sRet, sRetN, sNext, sDrop, sAsg, tsAnd, tsOr, tsNot, tsV, rOp, rVar, rC, HTr.rIx, ixL, start0, fEq, eqAtom, strip_pin, strip_at, strip_non, strip_bl, strip_int, strip_str, strip_ftup, strip_flst, strip_fdct, strip_fobj, strip_box, strip_scr, strip_tup, strip_lst, strip_dct, strip_obj, L.tree, L.trees, L.isFz, rCa, fLen, aCons, aNil, fCmp, pVar, endOf, backs, rAndV, rOrV, rNotV, rIf, rChain, rLst, rTup, mkTup, fInStr, fInSeq, fIsN, T.isNon, gSlot, gTupT, gsCons, gsNil, rSl, oNone, oSome, fSl, itemsF_fz, itemsF_fzc, trees_fzc, itemsF_lst, itemsF_tup, itemsF_str, itemsF_scr, itemsFT_tup, itemsFT_lst, itemsFT_str, itemsFT_scr, cut_to, frz_map, frz_cons, frz_nil, rIs, T.ty?, tyIs, rFld, look]
      have z := hG acc u.nd (fun k => by rw [u.mem, ← hm k]; simp) u.ord
      simpa using z
    | cons x rest ih =>
      intro pre acc o u hm hp h1 h2
      have hpre : ∀ k ∈ pre, kle k x := fun k hk => (List.pairwise_append.mp hp).2.2 k hk x (by simp)
      have nxt := ih (pre ++ [x]) (addU acc x) (some (.fz (tkey x))) (u.step hpre) (fun k => by rw [← hm k]; simp) (by simpa using hp) (by
        unfold addU; split <;> simp <;> omega) (by simp at h2 ⊢; omega)
      have okx : ∀ k ∈ acc, k.all kOk = true := fun k hk' => (hk k ((hm k).mp (List.mem_append_left _ ((u.mem k).mp hk')))).2.2
      have okx2 : x.all kOk = true := (hk x ((hm x).mp (by simp))).2.2
      have sh1 := shaped_list okx
      have sh2 := shaped_kdT okx2
      have sh0 : SeqAt.shaped (.list []) = true := by decide
      rw [List.map_cons]
      unfold forL
      revert nxt
      generalize forL (gSlot 2) _ (rest.map tkey) _ = cont
      intro nxt
      have hz : acc.length < sizeLine := by simp at h2; omega
      cases hq : acc.getLast? with
      | none =>
        have ea : acc = [] := List.getLast?_eq_none_iff.mp hq
        subst ea
        have e0 : addU [] x = [x] := by simp [addU]
        rw [e0] at nxt
        simp [data_nil, sh0, sMut, isLst, fAppend, PyData.eqv, PyData.eqvAll, -List.map_take, -List.map_drop, cut_map, atI_lit, ixN_lit, fAdd, fI, fI0, sSeq, sIf, sSet, sIx, sRetV, sRet, sRetN, sNext, sDrop, sAsg, tsAnd, tsOr, tsNot, tsV, rOp, rVar, rC, HTr.rIx, ixL, start0, fEq, eqAtom, strip_pin, strip_at, strip_non, strip_bl, strip_int, strip_str, strip_ftup, strip_flst, strip_fdct, strip_fobj, strip_box, strip_scr, strip_tup, strip_lst, strip_dct, strip_obj, L.tree, L.trees, L.isFz, rCa, fLen, aCons, aNil, fCmp, pVar, endOf, backs, rAndV, rOrV, rNotV, rIf, rChain, rLst, rTup, mkTup, fInStr, fInSeq, fIsN, T.isNon, gSlot, gTupT, gsCons, gsNil, rSl, oNone, oSome, fSl, itemsF_fz, itemsF_fzc, trees_fzc, itemsF_lst, itemsF_tup, itemsF_str, itemsF_scr, itemsFT_tup, itemsFT_lst, itemsFT_str, itemsFT_scr, cut_to, frz_map, frz_cons, frz_nil, rIs, T.ty?, tyIs, rFld, look]
        exact ⟨by decide, by simpa using nxt⟩
      | some y =>
        have ne : ¬ acc = [] := fun e => by rw [e] at hq; cases hq
        have sy : SeqAt.shaped (kdT y) = true := shaped_kdT (okx y (getLast_mem hq))
        by_cases exy : y = x
        · subst exy
          have e0 : addU acc y = acc := by simp [addU, hq]
          rw [e0] at nxt
          simp [data_list, data_nil, sh0, sh1, sy, eqv_nil, ne, atI_glast, hq, data_key, eqv_kdT, -List.map_take, -List.map_drop, cut_map, atI_lit, ixN_lit, fAdd, fI, fI0, sSeq, sIf, sSet, sIx, sRetV, sRet, sRetN, sNext, sDrop, sAsg, tsAnd, tsOr, tsNot, tsV, rOp, rVar, rC, HTr.rIx, ixL, start0, fEq, eqAtom, strip_pin, strip_at, strip_non, strip_bl, strip_int, strip_str, strip_ftup, strip_flst, strip_fdct, strip_fobj, strip_box, strip_scr, strip_tup, strip_lst, strip_dct, strip_obj, L.tree, L.trees, L.isFz, rCa, fLen, aCons, aNil, fCmp, pVar, endOf, backs, rAndV, rOrV, rNotV, rIf, rChain, rLst, rTup, mkTup, fInStr, fInSeq, fIsN, T.isNon, gSlot, gTupT, gsCons, gsNil, rSl, oNone, oSome, fSl, itemsF_fz, itemsF_fzc, trees_fzc, itemsF_lst, itemsF_tup, itemsF_str, itemsF_scr, itemsFT_tup, itemsFT_lst, itemsFT_str, itemsFT_scr, cut_to, frz_map, frz_cons, frz_nil, rIs, T.ty?, tyIs, rFld, look]
          simpa using nxt
        · have e0 : addU acc x = acc ++ [x] := by simp [addU, hq, exy]
          rw [e0] at nxt
          simp [data_list, data_nil, sh0, sh1, sh2, sy, eqv_nil, ne, atI_glast, hq, data_key, eqv_kdT, exy, sMut, isLst, fAppend, hz, -List.map_take, -List.map_drop, cut_map, atI_lit, ixN_lit, fAdd, fI, fI0, sSeq, sIf, sSet, sIx, sRetV, sRet, sRetN, sNext, sDrop, sAsg, tsAnd, tsOr, tsNot, tsV, rOp, rVar, rC, HTr.rIx, ixL, start0, fEq, eqAtom, strip_pin, strip_at, strip_non, strip_bl, strip_int, strip_str, strip_ftup, strip_flst, strip_fdct, strip_fobj, strip_box, strip_scr, strip_tup, strip_lst, strip_dct, strip_obj, L.tree, L.trees, L.isFz, rCa, fLen, aCons, aNil, fCmp, pVar, endOf, backs, rAndV, rOrV, rNotV, rIf, rChain, rLst, rTup, mkTup, fInStr, fInSeq, fIsN, T.isNon, gSlot, gTupT, gsCons, gsNil, rSl, oNone, oSome, fSl, itemsF_fz, itemsF_fzc, trees_fzc, itemsF_lst, itemsF_tup, itemsF_str, itemsF_scr, itemsFT_tup, itemsFT_lst, itemsFT_str, itemsFT_scr, cut_to, frz_map, frz_cons, frz_nil, rIs, T.ty?, tyIs, rFld, look]
          simpa using nxt
  have z := go vs [] [] none ⟨.nil, fun k => Iff.rfl, List.Pairwise.nil⟩ (fun k => by simp; exact pm.mem_iff) (by rw [List.nil_append]; exact so) (Nat.le_refl _) (by simp; rw [pm.length_eq]; exact hl)
  simpa using z
end W
namespace W
open PySem L2 HTr
def spSame (d : Nat) : SpT := fun ls G => ∃ t : T, ls = [.fz t, .fz t] ∧ Pl d t ∧ G (.fz (.bl true)) []
def spSub : Nat → SpT
  | 0 => fun _ _ => False
  | d + 1 => spSame d
theorem boolsT_true : ∀ n : Nat, boolsT (List.replicate n (T.bl true)) = some (List.replicate n true)
  | 0 => rfl
  | n + 1 => by simp [List.replicate_succ, boolsT, boolsT_true n]
theorem all_true (n : Nat) (G : L → List L → Prop) (hG : G (L.fz (T.bl true)) []) : match boolsT (L.trees (List.replicate n (L.fz (T.bl true)))) with
    | some bs => G (L.fz (T.bl (bs.all id))) []
    | none => False := by
  have e : L.trees (List.replicate n (L.fz (T.bl true))) = List.replicate n (T.bl true) := by rw [L.trees_eq, List.map_replicate]; rfl
  rw [e, boolsT_true]
  simpa using hG
theorem vc_same (d : Nat) : ∀ ls G, spSame d ls G → m_law_same (spSub d) (endOf ls G) (start0 N_law_same.length ls) := by
  rintro ls G ⟨t, rfl, ht, hG⟩
  have hbig : big < sizeLine := by decide
  have comp : ∀ (ts : List T) (t0 : T), Pl d t0 → (∃ d', d = d' + 1 ∧ ts.length ≤ big ∧ ∀ t ∈ ts, Pl d' t) → ∀ (n : Nat) (Q : List L → Prop), n + ts.length ≤ big → Q (List.replicate (n + ts.length) (.fz (.bl true))) →
      compL (gTupT (gsCons (gSlot 2) (gsCons (gSlot 3) gsNil)) 2) cYes (rCall (spSub d) [] (aCons (rVar 2) (aCons (rVar 3) aNil))) (zipT ts ts) (wipeS [some (.fz t0), some (.fz t0), none, none] [2, 3]) (List.replicate n (.fz (.bl true))) Q := by
    intro ts
    induction ts with
    | nil =>
      intro t0 _ _ n Q _ q
      simpa [zipT, compL] using q
    | cons x ts ih =>
      rintro t0 h0 ⟨d', rfl, hl, hx⟩ n Q hn q
      have hx0 := hx x (by simp)
      have sx := Pl.noAt hx0
      have nxt := ih t0 h0 ⟨d', rfl, by simp at hl; omega, fun u hu => hx u (by simp [hu])⟩ (n + 1) Q (by simp at hn; omega) (by
        have e : n + (x :: ts).length = n + 1 + ts.length := by simp; omega
        rw [← e]; exact q)
      rw [List.replicate_succ'] at nxt
      have ez : zipT (x :: ts) (x :: ts) = .tup [x, x] :: zipT ts ts := rfl
      rw [ez]
      have hlen : n < sizeLine := by simp at hn; omega
      unfold compL
      simp [wipeS, gTupT, gsCons, gSlot, gsNil, cYes, rCall, aCons, aNil, rVar, hlen] at nxt ⊢
      have sx' : (match (L.fz x : L) with | L.pin a l => l | L.fz (.at a t) => L.fz t | l => l) = L.fz x := sx
      rw [sx]
      refine ⟨x, rfl, hx0, Or.inr rfl, nxt⟩
  cases t with
  | int i =>
    simp [m_law_same, -List.map_take, -List.map_drop, cut_map, atI_lit, ixN_lit, fAdd, fI, fI0, sSeq, sIf, sSet, sIx, sRetV, sRet, sRetN, sNext, sDrop, sAsg, tsAnd, tsOr, tsNot, tsV, rOp, rVar, rC, HTr.rIx, ixL, start0, fEq, eqAtom, strip_pin, strip_at, strip_non, strip_bl, strip_int, strip_str, strip_ftup, strip_flst, strip_fdct, strip_fobj, strip_box, strip_scr, strip_tup, strip_lst, strip_dct, strip_obj, L.tree, L.trees, L.isFz, rCa, fLen, aCons, aNil, fCmp, pVar, endOf, backs, rAndV, rOrV, rNotV, rIf, rChain, rLst, rTup, mkTup, fInStr, fInSeq, fIsN, T.isNon, gSlot, gTupT, gsCons, gsNil, rSl, oNone, oSome, fSl, itemsF_fz, itemsF_fzc, trees_fzc, itemsF_lst, itemsF_tup, itemsF_str, itemsF_scr, itemsFT_tup, itemsFT_lst, itemsFT_str, itemsFT_scr, cut_to, frz_map, frz_cons, frz_nil, rIs, T.ty?, tyIs, rFld, look]
    exact hG
  | bl i =>
    simp [m_law_same, -List.map_take, -List.map_drop, cut_map, atI_lit, ixN_lit, fAdd, fI, fI0, sSeq, sIf, sSet, sIx, sRetV, sRet, sRetN, sNext, sDrop, sAsg, tsAnd, tsOr, tsNot, tsV, rOp, rVar, rC, HTr.rIx, ixL, start0, fEq, eqAtom, strip_pin, strip_at, strip_non, strip_bl, strip_int, strip_str, strip_ftup, strip_flst, strip_fdct, strip_fobj, strip_box, strip_scr, strip_tup, strip_lst, strip_dct, strip_obj, L.tree, L.trees, L.isFz, rCa, fLen, aCons, aNil, fCmp, pVar, endOf, backs, rAndV, rOrV, rNotV, rIf, rChain, rLst, rTup, mkTup, fInStr, fInSeq, fIsN, T.isNon, gSlot, gTupT, gsCons, gsNil, rSl, oNone, oSome, fSl, itemsF_fz, itemsF_fzc, trees_fzc, itemsF_lst, itemsF_tup, itemsF_str, itemsF_scr, itemsFT_tup, itemsFT_lst, itemsFT_str, itemsFT_scr, cut_to, frz_map, frz_cons, frz_nil, rIs, T.ty?, tyIs, rFld, look]
    exact hG
  | non =>
    simp [m_law_same, -List.map_take, -List.map_drop, cut_map, atI_lit, ixN_lit, fAdd, fI, fI0, sSeq, sIf, sSet, sIx, sRetV, sRet, sRetN, sNext, sDrop, sAsg, tsAnd, tsOr, tsNot, tsV, rOp, rVar, rC, HTr.rIx, ixL, start0, fEq, eqAtom, strip_pin, strip_at, strip_non, strip_bl, strip_int, strip_str, strip_ftup, strip_flst, strip_fdct, strip_fobj, strip_box, strip_scr, strip_tup, strip_lst, strip_dct, strip_obj, L.tree, L.trees, L.isFz, rCa, fLen, aCons, aNil, fCmp, pVar, endOf, backs, rAndV, rOrV, rNotV, rIf, rChain, rLst, rTup, mkTup, fInStr, fInSeq, fIsN, T.isNon, gSlot, gTupT, gsCons, gsNil, rSl, oNone, oSome, fSl, itemsF_fz, itemsF_fzc, trees_fzc, itemsF_lst, itemsF_tup, itemsF_str, itemsF_scr, itemsFT_tup, itemsFT_lst, itemsFT_str, itemsFT_scr, cut_to, frz_map, frz_cons, frz_nil, rIs, T.ty?, tyIs, rFld, look]
    exact hG
  | str x =>
    simp [m_law_same, -List.map_take, -List.map_drop, cut_map, atI_lit, ixN_lit, fAdd, fI, fI0, sSeq, sIf, sSet, sIx, sRetV, sRet, sRetN, sNext, sDrop, sAsg, tsAnd, tsOr, tsNot, tsV, rOp, rVar, rC, HTr.rIx, ixL, start0, fEq, eqAtom, strip_pin, strip_at, strip_non, strip_bl, strip_int, strip_str, strip_ftup, strip_flst, strip_fdct, strip_fobj, strip_box, strip_scr, strip_tup, strip_lst, strip_dct, strip_obj, L.tree, L.trees, L.isFz, rCa, fLen, aCons, aNil, fCmp, pVar, endOf, backs, rAndV, rOrV, rNotV, rIf, rChain, rLst, rTup, mkTup, fInStr, fInSeq, fIsN, T.isNon, gSlot, gTupT, gsCons, gsNil, rSl, oNone, oSome, fSl, itemsF_fz, itemsF_fzc, trees_fzc, itemsF_lst, itemsF_tup, itemsF_str, itemsF_scr, itemsFT_tup, itemsFT_lst, itemsFT_str, itemsFT_scr, cut_to, frz_map, frz_cons, frz_nil, rIs, T.ty?, tyIs, rFld, look]
    exact hG
  | tup ts =>
    cases d with
    | zero => exact ht.elim
    | succ d =>
      obtain ⟨hl, hx⟩ := ht
      simp [m_law_same, rCompZA, fBools, -List.map_take, -List.map_drop, cut_map, atI_lit, ixN_lit, fAdd, fI, fI0, sSeq, sIf, sSet, sIx, sRetV, sRet, sRetN, sNext, sDrop, sAsg, tsAnd, tsOr, tsNot, tsV, rOp, rVar, rC, HTr.rIx, ixL, start0, fEq, eqAtom, strip_pin, strip_at, strip_non, strip_bl, strip_int, strip_str, strip_ftup, strip_flst, strip_fdct, strip_fobj, strip_box, strip_scr, strip_tup, strip_lst, strip_dct, strip_obj, L.tree, L.trees, L.isFz, rCa, fLen, aCons, aNil, fCmp, pVar, endOf, backs, rAndV, rOrV, rNotV, rIf, rChain, rLst, rTup, mkTup, fInStr, fInSeq, fIsN, T.isNon, gSlot, gTupT, gsCons, gsNil, rSl, oNone, oSome, fSl, itemsF_fz, itemsF_fzc, trees_fzc, itemsF_lst, itemsF_tup, itemsF_str, itemsF_scr, itemsFT_tup, itemsFT_lst, itemsFT_str, itemsFT_scr, cut_to, frz_map, frz_cons, frz_nil, rIs, T.ty?, tyIs, rFld, look]
      refine comp ts (.tup ts) ⟨hl, hx⟩ ⟨d, rfl, hl, hx⟩ 0 _ (by omega) ?_
      exact all_true _ G hG
  | lst ts =>
    cases d with
    | zero => exact ht.elim
    | succ d =>
      obtain ⟨hl, hx⟩ := ht
      simp [m_law_same, rCompZA, fBools, -List.map_take, -List.map_drop, cut_map, atI_lit, ixN_lit, fAdd, fI, fI0, sSeq, sIf, sSet, sIx, sRetV, sRet, sRetN, sNext, sDrop, sAsg, tsAnd, tsOr, tsNot, tsV, rOp, rVar, rC, HTr.rIx, ixL, start0, fEq, eqAtom, strip_pin, strip_at, strip_non, strip_bl, strip_int, strip_str, strip_ftup, strip_flst, strip_fdct, strip_fobj, strip_box, strip_scr, strip_tup, strip_lst, strip_dct, strip_obj, L.tree, L.trees, L.isFz, rCa, fLen, aCons, aNil, fCmp, pVar, endOf, backs, rAndV, rOrV, rNotV, rIf, rChain, rLst, rTup, mkTup, fInStr, fInSeq, fIsN, T.isNon, gSlot, gTupT, gsCons, gsNil, rSl, oNone, oSome, fSl, itemsF_fz, itemsF_fzc, trees_fzc, itemsF_lst, itemsF_tup, itemsF_str, itemsF_scr, itemsFT_tup, itemsFT_lst, itemsFT_str, itemsFT_scr, cut_to, frz_map, frz_cons, frz_nil, rIs, T.ty?, tyIs, rFld, look]
      refine comp ts (.lst ts) ⟨hl, hx⟩ ⟨d, rfl, hl, hx⟩ 0 _ (by omega) ?_
      exact all_true _ G hG
  | _ => cases d <;> exact ht.elim
end W
namespace W
open PySem L2 HTr
theorem inv_map {α : Type} (k : α → List Key) : ∀ {us : List (List Key)}, (∀ u ∈ us, ∃ x, k x = u) → ∃ xs : List α, us = xs.map k
  | [], _ => ⟨[], rfl⟩
  | u :: us, h => by
    obtain ⟨x, hx⟩ := h u (by simp)
    obtain ⟨xs, hxs⟩ := inv_map k (us := us) fun v hv => h v (by simp [hv])
    exact ⟨x :: xs, by simp [hx, hxs]⟩
theorem srtA_of {as : List Arw} {us : List (List Key)} (nd : us.Nodup) (mem : ∀ k, k ∈ us ↔ k ∈ as.map Arw.k) (ord : kOrd us) : ∃ as', us = as'.map Arw.k ∧ SrtA as as' := by
  obtain ⟨as', e⟩ := inv_map Arw.k (us := us) fun u hu => by
    obtain ⟨x, _, hx⟩ := List.mem_map.mp ((mem u).mp hu)
    exact ⟨x, hx⟩
  subst e
  refine ⟨as', rfl, List.Pairwise.of_map _ (fun a b h e => h (by rw [e])) nd, fun y => ?_, ord⟩
  have z := mem y.k
  rw [List.mem_map, List.mem_map] at z
  refine ⟨fun h => ?_, fun h => ?_⟩
  · obtain ⟨w, hw, e⟩ := z.mp ⟨y, h, rfl⟩
    rw [← Arw.k_inj e]; exact hw
  · obtain ⟨w, hw, e⟩ := z.mpr ⟨y, h, rfl⟩
    rw [← Arw.k_inj e]; exact hw
theorem srtM_of {as : List Mrk} {us : List (List Key)} (nd : us.Nodup) (mem : ∀ k, k ∈ us ↔ k ∈ as.map Mrk.k) (ord : kOrd us) : ∃ as', us = as'.map Mrk.k ∧ SrtM as as' := by
  obtain ⟨as', e⟩ := inv_map Mrk.k (us := us) fun u hu => by
    obtain ⟨x, _, hx⟩ := List.mem_map.mp ((mem u).mp hu)
    exact ⟨x, hx⟩
  subst e
  refine ⟨as', rfl, List.Pairwise.of_map _ (fun a b h e => h (by rw [e])) nd, fun y => ?_, ord⟩
  have z := mem y.k
  rw [List.mem_map, List.mem_map] at z
  refine ⟨fun h => ?_, fun h => ?_⟩
  · obtain ⟨w, hw, e⟩ := z.mp ⟨y, h, rfl⟩
    rw [← Mrk.k_inj e]; exact hw
  · obtain ⟨w, hw, e⟩ := z.mpr ⟨y, h, rfl⟩
    rw [← Mrk.k_inj e]; exact hw
def spInit (C : Nat) : SpT := fun ls G => ∃ (x n : Nat) (as : List Arw) (ms : List Mrk) (ta tm : T), ls = [.pin x (.obj C [] []), .fz (.int n), .fz ta, .fz tm] ∧ (ta = .lst (as.map Arw.t) ∨ ta = .tup (as.map Arw.t)) ∧ (tm = .lst (ms.map Mrk.t) ∨ tm = .tup (ms.map Mrk.t)) ∧
  n ≤ 81 ∧ (∀ y ∈ as, y.ok n) ∧ (∀ y ∈ ms, y.ok n) ∧ as.length + 1 < 4900 ∧ ms.length + 1 < 4900 ∧ ∀ (l : L) (w : Wb), l.thin = true → WebT C w l.tree → w.n = n → w.ok → SrtA as w.as → SrtM ms w.ms → G (.fz .non) [.pin x l]
theorem enum_map {α : Type} (t : α → T) (xs : List α) : ∃ ps : List (Nat × α), enumT (xs.map t) = ps.map (fun p => T.tup [.int p.1, t p.2]) ∧ ∀ p ∈ ps, p.2 ∈ xs := by
  refine ⟨xs.zipIdx.map fun p => (p.2, p.1), ?_, fun p hp => ?_⟩
  · unfold enumT
    rw [List.zipIdx_map, List.map_map, List.map_map]
    rfl
  · obtain ⟨q, hq, e⟩ := List.mem_map.mp hp
    subst e
    exact (List.mem_zipIdx hq).2.2 ▸ (by simp)
abbrev gA : MG := gTupT (gsCons (gSlot 5) (gsCons (gSlot 6) (gsCons (gSlot 7) gsNil))) 3
abbrev rA : MR := rTup (aCons (rVar 5) (aCons (rVar 6) (aCons (rVar 7) aNil)))
abbrev gM : MG := gTupT (gsCons (gSlot 8) (gsCons (gSlot 9) gsNil)) 2
abbrev rM : MR := rTup (aCons (rVar 8) (aCons (rVar 9) aNil))
theorem compA (s0 s1 s2 s3 s4 s8 s9 : Option L) : ∀ (rest pre : List Arw) (Q : List (List Key) → Prop), pre.length + rest.length + 1 < 4900 → Q ((pre ++ rest).map Arw.k) →
    compK gA cYes rA (rest.map Arw.t) [s0, s1, s2, s3, s4, none, none, none, s8, s9] (pre.map Arw.k) Q
  | [], pre, Q, _, q => by simpa [compK] using q
  | y :: rest, pre, Q, hl, q => by
    have nxt := compA s0 s1 s2 s3 s4 s8 s9 rest (pre ++ [y]) Q (by simp at hl ⊢; omega) (by simpa using q)
    rw [List.map_append] at nxt
    rw [List.map_cons]
    unfold compK
    simp [Arw.t, cYes, -List.map_take, -List.map_drop, cut_map, atI_lit, ixN_lit, fAdd, fI, fI0, sSeq, sIf, sSet, sIx, sRetV, sRet, sRetN, sNext, sDrop, sAsg, tsAnd, tsOr, tsNot, tsV, rOp, rVar, rC, HTr.rIx, ixL, start0, fEq, eqAtom, strip_pin, strip_at, strip_non, strip_bl, strip_int, strip_str, strip_ftup, strip_flst, strip_fdct, strip_fobj, strip_box, strip_scr, strip_tup, strip_lst, strip_dct, strip_obj, L.tree, L.trees, L.isFz, rCa, fLen, aCons, aNil, fCmp, pVar, endOf, backs, rAndV, rOrV, rNotV, rIf, rChain, rLst, rTup, mkTup, fInStr, fInSeq, fIsN, T.isNon, gSlot, gTupT, gsCons, gsNil, rSl, oNone, oSome, fSl, itemsF_fz, itemsF_fzc, trees_fzc, itemsF_lst, itemsF_tup, itemsF_str, itemsF_scr, itemsFT_tup, itemsFT_lst, itemsFT_str, itemsFT_scr, cut_to, frz_map, frz_cons, frz_nil, rIs, T.ty?, tyIs, rFld, look]
    refine ⟨by decide, y.k, rfl, by simp at hl; omega, nxt⟩
theorem compM (s0 s1 s2 s3 s4 s5 s6 s7 : Option L) : ∀ (rest pre : List Mrk) (Q : List (List Key) → Prop), pre.length + rest.length + 1 < 4900 → Q ((pre ++ rest).map Mrk.k) →
    compK gM cYes rM (rest.map Mrk.t) [s0, s1, s2, s3, s4, s5, s6, s7, none, none] (pre.map Mrk.k) Q
  | [], pre, Q, _, q => by simpa [compK] using q
  | y :: rest, pre, Q, hl, q => by
    have nxt := compM s0 s1 s2 s3 s4 s5 s6 s7 rest (pre ++ [y]) Q (by simp at hl ⊢; omega) (by simpa using q)
    rw [List.map_append] at nxt
    rw [List.map_cons]
    unfold compK
    simp [Mrk.t, cYes, -List.map_take, -List.map_drop, cut_map, atI_lit, ixN_lit, fAdd, fI, fI0, sSeq, sIf, sSet, sIx, sRetV, sRet, sRetN, sNext, sDrop, sAsg, tsAnd, tsOr, tsNot, tsV, rOp, rVar, rC, HTr.rIx, ixL, start0, fEq, eqAtom, strip_pin, strip_at, strip_non, strip_bl, strip_int, strip_str, strip_ftup, strip_flst, strip_fdct, strip_fobj, strip_box, strip_scr, strip_tup, strip_lst, strip_dct, strip_obj, L.tree, L.trees, L.isFz, rCa, fLen, aCons, aNil, fCmp, pVar, endOf, backs, rAndV, rOrV, rNotV, rIf, rChain, rLst, rTup, mkTup, fInStr, fInSeq, fIsN, T.isNon, gSlot, gTupT, gsCons, gsNil, rSl, oNone, oSome, fSl, itemsF_fz, itemsF_fzc, trees_fzc, itemsF_lst, itemsF_tup, itemsF_str, itemsF_scr, itemsFT_tup, itemsFT_lst, itemsFT_str, itemsFT_scr, cut_to, frz_map, frz_cons, frz_nil, rIs, T.ty?, tyIs, rFld, look]
    refine ⟨by decide, y.k, rfl, by simp at hl; omega, nxt⟩
theorem nodup_len {α : Type} : ∀ {xs ys : List α}, xs.Nodup → (∀ x ∈ xs, x ∈ ys) → xs.length ≤ ys.length := by
  classical
  intro xs
  induction xs with
  | nil => intro ys _ _; exact Nat.zero_le _
  | cons x xs ih =>
    intro ys nd h
    have hx : x ∈ ys := h x (by simp)
    have nd2 := List.nodup_cons.mp nd
    have z := ih (ys := ys.erase x) nd2.2 fun w hw => (List.mem_erase_of_ne (show w ≠ x from fun e => nd2.1 (e ▸ hw))).mpr (h w (by simp [hw]))
    rw [List.length_erase_of_mem hx] at z
    have pos := List.length_pos_of_mem hx
    simp
    omega
def dD (kss : List (List Key)) (vss : List (List Nat)) : L := .dct true (kss.map tkey) (vss.map fun v => .lst (v.map fun (i : Nat) => .fz (.int i)))
def LooksG (f : List Key → List Nat) (k : List (List Key)) (v : List (List Nat)) : Prop := ∀ kk, match kidx k kk with
  | some j => v[j]? = some (f kk)
  | none => f kk = []
structure DOk (m : Nat) (f : List Key → List Nat) (kss : List (List Key)) (vss : List (List Nat)) : Prop where
  len : kss.length = vss.length
  few : kss.length ≤ m
  small : ∀ v ∈ vss, v.length ≤ m
  looks : LooksG f kss vss
theorem kidx_get {α : Type} [DecidableEq α] {ks : List α} {k : α} {j : Nat} (h : kidx ks k = some j) : ks[j]? = some k := by
  unfold kidx at h
  obtain ⟨h1, h2, _⟩ := List.findIdx?_eq_some_iff_getElem.mp h
  rw [List.getElem?_eq_getElem h1]
  simpa using h2
theorem kidx_app {α : Type} [DecidableEq α] (ks : List α) (a k : α) : kidx (ks ++ [a]) k = match kidx ks k with | some j => some j | none => if a = k then some ks.length else none := by
  unfold kidx
  rw [List.findIdx?_append]
  cases List.findIdx? (fun x => decide (x = k)) ks with
  | some j => rfl
  | none =>
    by_cases e : a = k <;> simp [List.findIdx?_cons, e]
theorem LooksG.old {f : List Key → List Nat} {k : List (List Key)} {v : List (List Nat)} {kk : List Key} {i j : Nat} (h : LooksG f k v) (hj : kidx k kk = some j) {old : List Nat} (ho : v[j]? = some old) : LooksG (fun q => if q = kk then f q ++ [i] else f q) k (v.set j (old ++ [i])) := by
  intro q
  have hq := h q
  have hkk := h kk
  rw [hj] at hkk
  simp only at hkk
  rw [hkk] at ho
  cases ho
  by_cases e : q = kk
  · subst e
    rw [hj]
    simp only [if_pos]
    have jl : j < v.length := by
      rw [List.getElem?_eq_some_iff] at hkk
      exact hkk.1
    simp [jl]
  · simp only [if_neg e]
    cases hq2 : kidx k q with
    | none => rw [hq2] at hq; exact hq
    | some j' =>
      rw [hq2] at hq
      have ne : j ≠ j' := fun e2 => by
        subst e2
        have := (kidx_get hj).symm.trans (kidx_get hq2)
        cases this
        exact e rfl
      simp only
      rw [List.getElem?_set_ne ne]
      exact hq
theorem LooksG.new {f : List Key → List Nat} {k : List (List Key)} {v : List (List Nat)} {kk : List Key} {i : Nat} (h : LooksG f k v) (hl : k.length = v.length) (hj : kidx k kk = none) : LooksG (fun q => if q = kk then f q ++ [i] else f q) (k ++ [kk]) (v ++ [[i]]) := by
  intro q
  have hq := h q
  have hkk := h kk
  rw [hj] at hkk
  simp only at hkk
  rw [kidx_app]
  cases hq2 : kidx k q with
  | some j' =>
    rw [hq2] at hq
    have e : q ≠ kk := fun e => by subst e; rw [hj] at hq2; cases hq2
    simp only [if_neg e]
    simp only at hq
    have jl : j' < v.length := by
      rw [List.getElem?_eq_some_iff] at hq
      exact hq.1
    rw [List.getElem?_append_left jl]
    exact hq
  | none =>
    rw [hq2] at hq
    by_cases e : q = kk
    · subst e
      simp [hkk, hl]
    · have e2 : ¬ kk = q := fun z => e z.symm
      simp only [if_neg e, if_neg e2]
      exact hq
theorem setd_use {p : MP} {ka m : MA} {e : ET} {S : HTr.S} {k : List (List Key)} {v : List (List Nat)} {f : List Key → List Nat} {mm : Nat} {kk : List Key} {i : Nat} {lks : List L} {o1 : Bool} {put : L → HTr.S}
    (hp : ∀ R : L → (L → HTr.S) → Prop, R (dD k v) put → p S R) (hka : ∀ Q : List L → Bool → Prop, Q lks o1 → ka S Q) (hl : L.trees lks = kk.map keyT) (hs : lks.length ≤ sizeLine)
    (hm : ∀ Q : List L → Bool → Prop, Q [.fz (.int i)] true → m S Q) (hm2 : ∀ l, ∀ Q : List L → Bool → Prop, Q [.fz (.int i)] true → m (put l) Q)
    (d : DOk mm f k v) (hmm : mm + 1 < sizeLine) (nx : ∀ k' v', DOk (mm + 1) (fun q => if q = kk then f q ++ [i] else f q) k' v' → e.nx (put (dD k' v'))) : sSetd p ka m e S := by
  refine hp _ (hka _ ⟨k, kk, rfl, hl, hs, by have := d.few; simp; omega, ?_⟩)
  cases hj : kidx k kk with
  | none =>
    refine hm2 _ _ ⟨rfl, _, rfl, ?_⟩
    have z := nx (k ++ [kk]) (v ++ [[i]]) ⟨by simp [d.len], by have := d.few; simp; omega, fun w hw => by
      rcases List.mem_append.mp hw with h | h
      · have := d.small w h; omega
      · simp at h; subst h; simp, d.looks.new d.len hj⟩
    simpa [dD] using z
  | some j =>
    have hjl : j < k.length := by
      unfold kidx at hj
      exact (List.findIdx?_eq_some_iff_getElem.mp hj).1
    have hjv : j < v.length := by rw [← d.len]; exact hjl
    have e1 : (v.map fun v => L.lst (v.map fun (i : Nat) => .fz (.int i)))[j]? = some (L.lst (v[j].map fun (i : Nat) => .fz (.int i))) := by
      rw [List.getElem?_map, List.getElem?_eq_getElem hjv]; rfl
    simp only [e1]
    have sm := d.small v[j] (List.getElem_mem hjv)
    refine ⟨by simp; omega, hm _ ⟨rfl, _, rfl, ?_⟩⟩
    have z := nx k (v.set j (v[j] ++ [i])) ⟨by simp [d.len], by have := d.few; omega, fun w hw => by
      rcases List.mem_or_eq_of_mem_set hw with h | h
      · have := d.small w h; omega
      · subst h; simp; omega, d.looks.old hj (List.getElem?_eq_getElem hjv)⟩
    simpa [dD, List.map_set] using z
def onF (pre : List Arw) (q : List Key) : List Nat := (pre.filter fun x => decide (q = [.inr x.c, .inl x.a])).map (·.b)
def bkF (pre : List Arw) (q : List Key) : List Nat := (pre.filter fun x => decide (q = [.inr x.c, .inl x.b])).map (·.a)
theorem onF_app (pre : List Arw) (y : Arw) : (fun q => if q = [.inr y.c, .inl y.a] then onF pre q ++ [y.b] else onF pre q) = onF (pre ++ [y]) := by
  funext q
  unfold onF
  rw [List.filter_append, List.map_append]
  by_cases e : q = [.inr y.c, .inl y.a] <;> simp [e]
theorem bkF_app (pre : List Arw) (y : Arw) : (fun q => if q = [.inr y.c, .inl y.b] then bkF pre q ++ [y.a] else bkF pre q) = bkF (pre ++ [y]) := by
  funext q
  unfold bkF
  rw [List.filter_append, List.map_append]
  by_cases e : q = [.inr y.c, .inl y.b] <;> simp [e]
theorem looks_on {w : Wb} {k : List (List Key)} {v : List (List Nat)} (h : LooksG (onF w.as) k v) : Looks w.aft k v := by
  intro c a
  have z := h [.inr c, .inl (a : Nat)]
  have e : onF w.as [.inr c, .inl (a : Nat)] = w.aft c a := by
    unfold onF Wb.aft
    congr 1
    apply List.filter_congr
    intro x _
    simp only [List.cons.injEq, Sum.inr.injEq, Sum.inl.injEq, and_true, decide_eq_decide]
    exact ⟨fun ⟨e1, e2⟩ => ⟨e1.symm, by omega⟩, fun ⟨e1, e2⟩ => ⟨e1.symm, by omega⟩⟩
  rw [e] at z
  exact z
theorem looks_bk {w : Wb} {k : List (List Key)} {v : List (List Nat)} (h : LooksG (bkF w.as) k v) : Looks w.bef k v := by
  intro c a
  have z := h [.inr c, .inl (a : Nat)]
  have e : bkF w.as [.inr c, .inl (a : Nat)] = w.bef c a := by
    unfold bkF Wb.bef
    congr 1
    apply List.filter_congr
    intro x _
    simp only [List.cons.injEq, Sum.inr.injEq, Sum.inl.injEq, and_true, decide_eq_decide]
    exact ⟨fun ⟨e1, e2⟩ => ⟨e1.symm, by omega⟩, fun ⟨e1, e2⟩ => ⟨e1.symm, by omega⟩⟩
  rw [e] at z
  exact z
theorem dD_tree (k : List (List Key)) (v : List (List Nat)) : (dD k v).tree = dctT k v := by
  unfold dD dctT
  simp only [L.tree]
  rw [L.trees_eq, List.map_map]
  congr 1
  apply List.map_congr_left
  intro x _
  simp only [Function.comp, L.tree]
  rw [L.trees_eq, List.map_map]
  rfl
theorem vc_init (C : Nat) : ∀ ls G, spInit C ls G → m_Web_init spCol spMrk C (endOf ls G) (start0 N_Web_init.length ls) := by
  rintro ls G ⟨x, n, as, ms, ta, tm, rfl, hta, htm, hn, ha, hm, la, lm, hG⟩
  unfold m_Web_init
  refine seq_gen fun k1 hk1 => ?_
  have n81 : (n : Int) ≤ 81 := by omega
  simp [n81, -List.map_take, -List.map_drop, cut_map, atI_lit, ixN_lit, fAdd, fI, fI0, sSeq, sIf, sSet, sIx, sRetV, sRet, sRetN, sNext, sDrop, sAsg, tsAnd, tsOr, tsNot, tsV, rOp, rVar, rC, HTr.rIx, ixL, start0, fEq, eqAtom, strip_pin, strip_at, strip_non, strip_bl, strip_int, strip_str, strip_ftup, strip_flst, strip_fdct, strip_fobj, strip_box, strip_scr, strip_tup, strip_lst, strip_dct, strip_obj, L.tree, L.trees, L.isFz, rCa, fLen, aCons, aNil, fCmp, pVar, endOf, backs, rAndV, rOrV, rNotV, rIf, rChain, rLst, rTup, mkTup, fInStr, fInSeq, fIsN, T.isNon, gSlot, gTupT, gsCons, gsNil, rSl, oNone, oSome, fSl, itemsF_fz, itemsF_fzc, trees_fzc, itemsF_lst, itemsF_tup, itemsF_str, itemsF_scr, itemsFT_tup, itemsFT_lst, itemsFT_str, itemsFT_scr, cut_to, frz_map, frz_cons, frz_nil, rIs, T.ty?, tyIs, rFld, look]
  refine hk1 _ ?_
  refine seq_gen fun k2 hk2 => ?_
  have next2 : ∀ o4 o5 o6 o7, k2 [some (.pin x (.obj C [] [])), some (.fz (.int n)), some (.fz ta), some (.fz tm), o4, o5, o6, o7, none, none] := by
    intro o4 o5 o6 o7
    refine hk2 _ ?_
    refine seq_gen fun k3 hk3 => ?_
    have next3 : ∀ o4 o8 o9, k3 [some (.pin x (.obj C [] [])), some (.fz (.int n)), some (.fz ta), some (.fz tm), o4, o5, o6, o7, o8, o9] := by
      intro o4 o8 o9
      refine hk3 _ ?_
      refine seq_gen fun k4 hk4 => ?_
      simp [HTr.sFld, putN, putX, -List.map_take, -List.map_drop, cut_map, atI_lit, ixN_lit, fAdd, fI, fI0, sSeq, sIf, sSet, sIx, sRetV, sRet, sRetN, sNext, sDrop, sAsg, tsAnd, tsOr, tsNot, tsV, rOp, rVar, rC, HTr.rIx, ixL, start0, fEq, eqAtom, strip_pin, strip_at, strip_non, strip_bl, strip_int, strip_str, strip_ftup, strip_flst, strip_fdct, strip_fobj, strip_box, strip_scr, strip_tup, strip_lst, strip_dct, strip_obj, L.tree, L.trees, L.isFz, rCa, fLen, aCons, aNil, fCmp, pVar, endOf, backs, rAndV, rOrV, rNotV, rIf, rChain, rLst, rTup, mkTup, fInStr, fInSeq, fIsN, T.isNon, gSlot, gTupT, gsCons, gsNil, rSl, oNone, oSome, fSl, itemsF_fz, itemsF_fzc, trees_fzc, itemsF_lst, itemsF_tup, itemsF_str, itemsF_scr, itemsFT_tup, itemsFT_lst, itemsFT_str, itemsFT_scr, cut_to, frz_map, frz_cons, frz_nil, rIs, T.ty?, tyIs, rFld, look]
      refine hk4 _ ?_
      refine seq_gen fun k5 hk5 => ?_
      simp [HTr.sFld, putN, putX, rLstR1, ofStr_inj, -List.map_take, -List.map_drop, cut_map, atI_lit, ixN_lit, fAdd, fI, fI0, sSeq, sIf, sSet, sIx, sRetV, sRet, sRetN, sNext, sDrop, sAsg, tsAnd, tsOr, tsNot, tsV, rOp, rVar, rC, HTr.rIx, ixL, start0, fEq, eqAtom, strip_pin, strip_at, strip_non, strip_bl, strip_int, strip_str, strip_ftup, strip_flst, strip_fdct, strip_fobj, strip_box, strip_scr, strip_tup, strip_lst, strip_dct, strip_obj, L.tree, L.trees, L.isFz, rCa, fLen, aCons, aNil, fCmp, pVar, endOf, backs, rAndV, rOrV, rNotV, rIf, rChain, rLst, rTup, mkTup, fInStr, fInSeq, fIsN, T.isNon, gSlot, gTupT, gsCons, gsNil, rSl, oNone, oSome, fSl, itemsF_fz, itemsF_fzc, trees_fzc, itemsF_lst, itemsF_tup, itemsF_str, itemsF_scr, itemsFT_tup, itemsFT_lst, itemsFT_str, itemsFT_scr, cut_to, frz_map, frz_cons, frz_nil, rIs, T.ty?, tyIs, rFld, look]
      refine ⟨⟨by omega, by omega, by omega, by omega, by omega⟩, hk5 _ ?_⟩
      refine seq_gen fun k6 hk6 => ?_
      have next6 : ∀ (as' : List Arw) (p : Nat), SrtA as as' → k6 [some (L.pin x (L.obj C [Str.ofString "many", Str.ofString "spots_there", Str.ofString "arrow_list"] [L.fz (T.int n), L.lst ((rgT 0 n).map L.fz), L.pin p (L.lst ((as'.map Arw.k).map fun k => L.fz (tkey k)))])),
          some (L.fz (T.int n)), some (L.fz ta), some (L.fz tm), o4, o5, o6, o7, o8, o9] := by
        intro as' p sA
        refine hk6 _ ?_
        refine seq_gen fun k7 hk7 => ?_
        have next7 : ∀ (ms' : List Mrk), SrtM ms ms' → k7 [some (L.pin x (L.obj C [Str.ofString "many", Str.ofString "spots_there", Str.ofString "arrow_list", Str.ofString "mark_list"] [L.fz (T.int n), L.lst ((rgT 0 n).map L.fz), L.pin p (L.lst ((as'.map Arw.k).map fun k => L.fz (tkey k))), L.lst ((ms'.map Mrk.k).map fun k => L.fz (tkey k))])),
          some (L.fz (T.int n)), some (L.fz ta), some (L.fz tm), o4, o5, o6, o7, o8, o9] := by
          intro ms' sM
          refine hk7 _ ?_
          refine seq_gen fun k8 hk8 => ?_
          simp [HTr.sFld, putN, putX, rDnew, ofStr_inj, -List.map_take, -List.map_drop, cut_map, atI_lit, ixN_lit, fAdd, fI, fI0, sSeq, sIf, sSet, sIx, sRetV, sRet, sRetN, sNext, sDrop, sAsg, tsAnd, tsOr, tsNot, tsV, rOp, rVar, rC, HTr.rIx, ixL, start0, fEq, eqAtom, strip_pin, strip_at, strip_non, strip_bl, strip_int, strip_str, strip_ftup, strip_flst, strip_fdct, strip_fobj, strip_box, strip_scr, strip_tup, strip_lst, strip_dct, strip_obj, L.tree, L.trees, L.isFz, rCa, fLen, aCons, aNil, fCmp, pVar, endOf, backs, rAndV, rOrV, rNotV, rIf, rChain, rLst, rTup, mkTup, fInStr, fInSeq, fIsN, T.isNon, gSlot, gTupT, gsCons, gsNil, rSl, oNone, oSome, fSl, itemsF_fz, itemsF_fzc, trees_fzc, itemsF_lst, itemsF_tup, itemsF_str, itemsF_scr, itemsFT_tup, itemsFT_lst, itemsFT_str, itemsFT_scr, cut_to, frz_map, frz_cons, frz_nil, rIs, T.ty?, tyIs, rFld, look]
          refine hk8 _ ?_
          refine seq_gen fun k9 hk9 => ?_
          simp [HTr.sFld, putN, putX, rDnew, ofStr_inj, -List.map_take, -List.map_drop, cut_map, atI_lit, ixN_lit, fAdd, fI, fI0, sSeq, sIf, sSet, sIx, sRetV, sRet, sRetN, sNext, sDrop, sAsg, tsAnd, tsOr, tsNot, tsV, rOp, rVar, rC, HTr.rIx, ixL, start0, fEq, eqAtom, strip_pin, strip_at, strip_non, strip_bl, strip_int, strip_str, strip_ftup, strip_flst, strip_fdct, strip_fobj, strip_box, strip_scr, strip_tup, strip_lst, strip_dct, strip_obj, L.tree, L.trees, L.isFz, rCa, fLen, aCons, aNil, fCmp, pVar, endOf, backs, rAndV, rOrV, rNotV, rIf, rChain, rLst, rTup, mkTup, fInStr, fInSeq, fIsN, T.isNon, gSlot, gTupT, gsCons, gsNil, rSl, oNone, oSome, fSl, itemsF_fz, itemsF_fzc, trees_fzc, itemsF_lst, itemsF_tup, itemsF_str, itemsF_scr, itemsFT_tup, itemsFT_lst, itemsFT_str, itemsFT_scr, cut_to, frz_map, frz_cons, frz_nil, rIs, T.ty?, tyIs, rFld, look]
          refine hk9 _ ?_
          have lenA : ∀ (pre : List Arw) (y : Arw) (rest : List Arw), pre ++ y :: rest = as' → pre.length + 1 < sizeLine := by
            intro pre y rest e
            have l1 : as'.length ≤ as.length := nodup_len sA.nd fun z hz => (sA.mem z).mp hz
            have l2 : pre.length + (rest.length + 1) = as'.length := by rw [← e]; simp
            have hz : 4900 < sizeLine := by decide
            omega
          have loop : ∀ (rest pre : List Arw) (k1 k2 : List (List Key)) (v1 v2 : List (List Nat)) (o5 o6 o7 : Option L), pre ++ rest = as' → DOk pre.length (onF pre) k1 v1 → DOk pre.length (bkF pre) k2 v2 →
              forP 0 (Str.ofString "arrow_list") p (List.map ((fun k => L.fz (tkey k)) ∘ Arw.k) as') gA
                (sSeq (sSetd (pFld C (Str.ofString "onward") (pVar 0)) (aCons (rVar 5) (aCons (rVar 6) aNil)) (aCons (rVar 7) aNil)) (sSetd (pFld C (Str.ofString "backward") (pVar 0)) (aCons (rVar 5) (aCons (rVar 7) aNil)) (aCons (rVar 6) aNil)))
                (rest.map Arw.t) (endOf [L.pin x (L.obj C [] []), L.fz (T.int n), L.fz ta, L.fz tm] G)
                [some (L.pin x (L.obj C [Str.ofString "many", Str.ofString "spots_there", Str.ofString "arrow_list", Str.ofString "mark_list", Str.ofString "onward", Str.ofString "backward"]
                  [L.fz (T.int n), L.lst (List.map L.fz (rgT 0 n)), L.pin p (L.lst (List.map ((fun k => L.fz (tkey k)) ∘ Arw.k) as')), L.lst (List.map ((fun k => L.fz (tkey k)) ∘ Mrk.k) ms'), dD k1 v1, dD k2 v2])),
                  some (L.fz (T.int n)), some (L.fz ta), some (L.fz tm), o4, o5, o6, o7, o8, o9] := by
            intro rest
            induction rest with
            | nil =>
              intro pre k1 k2 v1 v2 o5 o6 o7 e d1 d2
              refine ⟨by simp [peekF, look, ofStr_inj], ?_⟩
              have e0 : pre = as' := by simpa using e
              have th : ∀ kk : List Key, T.thin (tkey kk) = true := by
                intro kk
                have : T.thins (kk.map keyT) = true := by
                  induction kk with
                  | nil => rfl
                  | cons k kk ih => cases k <;> simp [T.thins, keyT, T.thin, ih]
                simpa [T.thin, tkey] using this
              have thm : ∀ {α : Type} (f : α → L) (hf : ∀ x, (f x).thin = true) (xs : List α), L.thins (xs.map f) = true := by
                intro α f hf xs
                induction xs with
                | nil => rfl
                | cons x xs ih => simp [L.thins, hf, ih]
              have thd : ∀ (k : List (List Key)) (v : List (List Nat)), L.thin (dD k v) = true := by
                intro k v
                have : L.thins (v.map fun v => L.lst (v.map fun (i : Nat) => .fz (.int i))) = true := thm _ (fun v => by
                  have := thm (fun (i : Nat) => L.fz (.int i)) (fun i => rfl) v
                  simpa [L.thin] using this) v
                simpa [dD, L.thin] using this
              have t1 : L.thins (List.map L.fz (rgT 0 n)) = true := by
                unfold rgT rangeT
                rw [List.map_map]
                exact thm _ (fun i => rfl) _
              have t2 : L.thins (List.map ((fun k => L.fz (tkey k)) ∘ Arw.k) as') = true := thm ((fun k => L.fz (tkey k)) ∘ Arw.k) (fun y => th y.k) _
              have t3 : L.thins (List.map ((fun k => L.fz (tkey k)) ∘ Mrk.k) ms') = true := thm ((fun k => L.fz (tkey k)) ∘ Mrk.k) (fun y => th y.k) _
              have g := hG (L.obj C [Str.ofString "many", Str.ofString "spots_there", Str.ofString "arrow_list", Str.ofString "mark_list", Str.ofString "onward", Str.ofString "backward"]
                [L.fz (T.int n), L.lst (List.map L.fz (rgT 0 n)), L.pin p (L.lst (List.map ((fun k => L.fz (tkey k)) ∘ Arw.k) as')), L.lst (List.map ((fun k => L.fz (tkey k)) ∘ Mrk.k) ms'), dD k1 v1, dD k2 v2]) ⟨n, as', ms'⟩
                (by simp [L.thin, L.thins, T.thin, t1, t2, t3, thd]) ⟨k1, v1, k2, v2, by
                  have e1 : L.trees (List.map L.fz (rgT 0 n)) = rgT 0 n := by
                    exact L.trees_fz (rgT 0 n)
                  have e2 : L.trees (List.map ((fun k => L.fz (tkey k)) ∘ Arw.k) as') = as'.map Arw.t := by
                    have := trees_fzc Arw.t as'
                    exact this
                  have e3 : L.trees (List.map ((fun k => L.fz (tkey k)) ∘ Mrk.k) ms') = ms'.map Mrk.t := by
                    have := trees_fzc Mrk.t ms'
                    exact this
                  simp [L.tree, L.trees, e1, e2, e3, webNs, dD_tree], looks_on (by rw [← e0]; exact d1.looks), looks_bk (by rw [← e0]; exact d2.looks)⟩ rfl
                ⟨hn, fun y hy => ha y ((sA.mem y).mp hy), fun y hy => hm y ((sM.mem y).mp hy), ⟨sA.nd, fun y => Iff.rfl, sA.ord⟩, ⟨sM.nd, fun y => Iff.rfl, sM.ord⟩⟩ sA sM
              simp [backs, -List.map_take, -List.map_drop, cut_map, atI_lit, ixN_lit, fAdd, fI, fI0, sSeq, sIf, sSet, sIx, sRetV, sRet, sRetN, sNext, sDrop, sAsg, tsAnd, tsOr, tsNot, tsV, rOp, rVar, rC, HTr.rIx, ixL, start0, fEq, eqAtom, strip_pin, strip_at, strip_non, strip_bl, strip_int, strip_str, strip_ftup, strip_flst, strip_fdct, strip_fobj, strip_box, strip_scr, strip_tup, strip_lst, strip_dct, strip_obj, L.tree, L.trees, L.isFz, rCa, fLen, aCons, aNil, fCmp, pVar, endOf, backs, rAndV, rOrV, rNotV, rIf, rChain, rLst, rTup, mkTup, fInStr, fInSeq, fIsN, T.isNon, gSlot, gTupT, gsCons, gsNil, rSl, oNone, oSome, fSl, itemsF_fz, itemsF_fzc, trees_fzc, itemsF_lst, itemsF_tup, itemsF_str, itemsF_scr, itemsFT_tup, itemsFT_lst, itemsFT_str, itemsFT_scr, cut_to, frz_map, frz_cons, frz_nil, rIs, T.ty?, tyIs, rFld, look]
              exact g
            | cons y rest ih =>
              intro pre k1 k2 v1 v2 o5 o6 o7 e d1 d2
              refine ⟨by simp [peekF, look, ofStr_inj], ?_⟩
              have ih2 := fun k1 k2 v1 v2 o5 o6 o7 => ih (pre ++ [y]) k1 k2 v1 v2 o5 o6 o7 (by simpa using e)
              revert ih2
              generalize forP _ _ _ _ _ _ (List.map _ rest) _ = cont
              intro ih2
              have few : pre.length + (rest.length + 1) = as'.length := by rw [← e]; simp
              have small : pre.length + 1 < sizeLine := lenA pre y rest e
              simp [Arw.t, -List.map_take, -List.map_drop, cut_map, atI_lit, ixN_lit, fAdd, fI, fI0, sSeq, sIf, sSet, sIx, sRetV, sRet, sRetN, sNext, sDrop, sAsg, tsAnd, tsOr, tsNot, tsV, rOp, rVar, rC, HTr.rIx, ixL, start0, fEq, eqAtom, strip_pin, strip_at, strip_non, strip_bl, strip_int, strip_str, strip_ftup, strip_flst, strip_fdct, strip_fobj, strip_box, strip_scr, strip_tup, strip_lst, strip_dct, strip_obj, L.tree, L.trees, L.isFz, rCa, fLen, aCons, aNil, fCmp, pVar, endOf, backs, rAndV, rOrV, rNotV, rIf, rChain, rLst, rTup, mkTup, fInStr, fInSeq, fIsN, T.isNon, gSlot, gTupT, gsCons, gsNil, rSl, oNone, oSome, fSl, itemsF_fz, itemsF_fzc, trees_fzc, itemsF_lst, itemsF_tup, itemsF_str, itemsF_scr, itemsFT_tup, itemsFT_lst, itemsFT_str, itemsFT_scr, cut_to, frz_map, frz_cons, frz_nil, rIs, T.ty?, tyIs, rFld, look]
              refine setd_use (k := k1) (v := v1) (mm := pre.length) (kk := [.inr y.c, .inl y.a]) (i := y.b) (lks := [.fz (.str y.c), .fz (.int y.a)]) (o1 := true)
                (put := fun l => [some (L.pin x (L.obj C [Str.ofString "many", Str.ofString "spots_there", Str.ofString "arrow_list", Str.ofString "mark_list", Str.ofString "onward", Str.ofString "backward"]
                  [L.fz (T.int n), L.lst (List.map L.fz (rgT 0 n)), L.pin p (L.lst (List.map ((fun k => L.fz (tkey k)) ∘ Arw.k) as')), L.lst (List.map ((fun k => L.fz (tkey k)) ∘ Mrk.k) ms'), l, dD k2 v2])),
                  some (L.fz (T.int n)), some (L.fz ta), some (L.fz tm), o4, some (.fz (.str y.c)), some (.fz (.int y.a)), some (.fz (.int y.b)), o8, o9])
                (fun R h => ?_) (fun Q h => ?_) rfl (show 2 ≤ sizeLine by decide) (fun Q h => ?_) (fun l Q h => ?_) d1 small fun k1' v1' d1' => ?_
              · simp [pFld, idx, ofStr_inj, -List.map_take, -List.map_drop, cut_map, atI_lit, ixN_lit, fAdd, fI, fI0, sSeq, sIf, sSet, sIx, sRetV, sRet, sRetN, sNext, sDrop, sAsg, tsAnd, tsOr, tsNot, tsV, rOp, rVar, rC, HTr.rIx, ixL, start0, fEq, eqAtom, strip_pin, strip_at, strip_non, strip_bl, strip_int, strip_str, strip_ftup, strip_flst, strip_fdct, strip_fobj, strip_box, strip_scr, strip_tup, strip_lst, strip_dct, strip_obj, L.tree, L.trees, L.isFz, rCa, fLen, aCons, aNil, fCmp, pVar, endOf, backs, rAndV, rOrV, rNotV, rIf, rChain, rLst, rTup, mkTup, fInStr, fInSeq, fIsN, T.isNon, gSlot, gTupT, gsCons, gsNil, rSl, oNone, oSome, fSl, itemsF_fz, itemsF_fzc, trees_fzc, itemsF_lst, itemsF_tup, itemsF_str, itemsF_scr, itemsFT_tup, itemsFT_lst, itemsFT_str, itemsFT_scr, cut_to, frz_map, frz_cons, frz_nil, rIs, T.ty?, tyIs, rFld, look]
                exact h
              · simp [true_and, -List.map_take, -List.map_drop, cut_map, atI_lit, ixN_lit, fAdd, fI, fI0, sSeq, sIf, sSet, sIx, sRetV, sRet, sRetN, sNext, sDrop, sAsg, tsAnd, tsOr, tsNot, tsV, rOp, rVar, rC, HTr.rIx, ixL, start0, fEq, eqAtom, strip_pin, strip_at, strip_non, strip_bl, strip_int, strip_str, strip_ftup, strip_flst, strip_fdct, strip_fobj, strip_box, strip_scr, strip_tup, strip_lst, strip_dct, strip_obj, L.tree, L.trees, L.isFz, rCa, fLen, aCons, aNil, fCmp, pVar, endOf, backs, rAndV, rOrV, rNotV, rIf, rChain, rLst, rTup, mkTup, fInStr, fInSeq, fIsN, T.isNon, gSlot, gTupT, gsCons, gsNil, rSl, oNone, oSome, fSl, itemsF_fz, itemsF_fzc, trees_fzc, itemsF_lst, itemsF_tup, itemsF_str, itemsF_scr, itemsFT_tup, itemsFT_lst, itemsFT_str, itemsFT_scr, cut_to, frz_map, frz_cons, frz_nil, rIs, T.ty?, tyIs, rFld, look]
                exact h
              · simp [true_and, -List.map_take, -List.map_drop, cut_map, atI_lit, ixN_lit, fAdd, fI, fI0, sSeq, sIf, sSet, sIx, sRetV, sRet, sRetN, sNext, sDrop, sAsg, tsAnd, tsOr, tsNot, tsV, rOp, rVar, rC, HTr.rIx, ixL, start0, fEq, eqAtom, strip_pin, strip_at, strip_non, strip_bl, strip_int, strip_str, strip_ftup, strip_flst, strip_fdct, strip_fobj, strip_box, strip_scr, strip_tup, strip_lst, strip_dct, strip_obj, L.tree, L.trees, L.isFz, rCa, fLen, aCons, aNil, fCmp, pVar, endOf, backs, rAndV, rOrV, rNotV, rIf, rChain, rLst, rTup, mkTup, fInStr, fInSeq, fIsN, T.isNon, gSlot, gTupT, gsCons, gsNil, rSl, oNone, oSome, fSl, itemsF_fz, itemsF_fzc, trees_fzc, itemsF_lst, itemsF_tup, itemsF_str, itemsF_scr, itemsFT_tup, itemsFT_lst, itemsFT_str, itemsFT_scr, cut_to, frz_map, frz_cons, frz_nil, rIs, T.ty?, tyIs, rFld, look]
                exact h
              · simp [true_and, -List.map_take, -List.map_drop, cut_map, atI_lit, ixN_lit, fAdd, fI, fI0, sSeq, sIf, sSet, sIx, sRetV, sRet, sRetN, sNext, sDrop, sAsg, tsAnd, tsOr, tsNot, tsV, rOp, rVar, rC, HTr.rIx, ixL, start0, fEq, eqAtom, strip_pin, strip_at, strip_non, strip_bl, strip_int, strip_str, strip_ftup, strip_flst, strip_fdct, strip_fobj, strip_box, strip_scr, strip_tup, strip_lst, strip_dct, strip_obj, L.tree, L.trees, L.isFz, rCa, fLen, aCons, aNil, fCmp, pVar, endOf, backs, rAndV, rOrV, rNotV, rIf, rChain, rLst, rTup, mkTup, fInStr, fInSeq, fIsN, T.isNon, gSlot, gTupT, gsCons, gsNil, rSl, oNone, oSome, fSl, itemsF_fz, itemsF_fzc, trees_fzc, itemsF_lst, itemsF_tup, itemsF_str, itemsF_scr, itemsFT_tup, itemsFT_lst, itemsFT_str, itemsFT_scr, cut_to, frz_map, frz_cons, frz_nil, rIs, T.ty?, tyIs, rFld, look]
                exact h
              simp [true_and, -List.map_take, -List.map_drop, cut_map, atI_lit, ixN_lit, fAdd, fI, fI0, sSeq, sIf, sSet, sIx, sRetV, sRet, sRetN, sNext, sDrop, sAsg, tsAnd, tsOr, tsNot, tsV, rOp, rVar, rC, HTr.rIx, ixL, start0, fEq, eqAtom, strip_pin, strip_at, strip_non, strip_bl, strip_int, strip_str, strip_ftup, strip_flst, strip_fdct, strip_fobj, strip_box, strip_scr, strip_tup, strip_lst, strip_dct, strip_obj, L.tree, L.trees, L.isFz, rCa, fLen, aCons, aNil, fCmp, pVar, endOf, backs, rAndV, rOrV, rNotV, rIf, rChain, rLst, rTup, mkTup, fInStr, fInSeq, fIsN, T.isNon, gSlot, gTupT, gsCons, gsNil, rSl, oNone, oSome, fSl, itemsF_fz, itemsF_fzc, trees_fzc, itemsF_lst, itemsF_tup, itemsF_str, itemsF_scr, itemsFT_tup, itemsFT_lst, itemsFT_str, itemsFT_scr, cut_to, frz_map, frz_cons, frz_nil, rIs, T.ty?, tyIs, rFld, look]
              refine setd_use (k := k2) (v := v2) (mm := pre.length) (kk := [.inr y.c, .inl y.b]) (i := y.a) (lks := [.fz (.str y.c), .fz (.int y.b)]) (o1 := true)
                (put := fun l => [some (L.pin x (L.obj C [Str.ofString "many", Str.ofString "spots_there", Str.ofString "arrow_list", Str.ofString "mark_list", Str.ofString "onward", Str.ofString "backward"]
                  [L.fz (T.int n), L.lst (List.map L.fz (rgT 0 n)), L.pin p (L.lst (List.map ((fun k => L.fz (tkey k)) ∘ Arw.k) as')), L.lst (List.map ((fun k => L.fz (tkey k)) ∘ Mrk.k) ms'), dD k1' v1', l])),
                  some (L.fz (T.int n)), some (L.fz ta), some (L.fz tm), o4, some (.fz (.str y.c)), some (.fz (.int y.a)), some (.fz (.int y.b)), o8, o9])
                (fun R h => ?_) (fun Q h => ?_) rfl (show 2 ≤ sizeLine by decide) (fun Q h => ?_) (fun l Q h => ?_) d2 small fun k2' v2' d2' => ?_
              · simp [pFld, idx, ofStr_inj, -List.map_take, -List.map_drop, cut_map, atI_lit, ixN_lit, fAdd, fI, fI0, sSeq, sIf, sSet, sIx, sRetV, sRet, sRetN, sNext, sDrop, sAsg, tsAnd, tsOr, tsNot, tsV, rOp, rVar, rC, HTr.rIx, ixL, start0, fEq, eqAtom, strip_pin, strip_at, strip_non, strip_bl, strip_int, strip_str, strip_ftup, strip_flst, strip_fdct, strip_fobj, strip_box, strip_scr, strip_tup, strip_lst, strip_dct, strip_obj, L.tree, L.trees, L.isFz, rCa, fLen, aCons, aNil, fCmp, pVar, endOf, backs, rAndV, rOrV, rNotV, rIf, rChain, rLst, rTup, mkTup, fInStr, fInSeq, fIsN, T.isNon, gSlot, gTupT, gsCons, gsNil, rSl, oNone, oSome, fSl, itemsF_fz, itemsF_fzc, trees_fzc, itemsF_lst, itemsF_tup, itemsF_str, itemsF_scr, itemsFT_tup, itemsFT_lst, itemsFT_str, itemsFT_scr, cut_to, frz_map, frz_cons, frz_nil, rIs, T.ty?, tyIs, rFld, look]
                exact h
              · simp [true_and, -List.map_take, -List.map_drop, cut_map, atI_lit, ixN_lit, fAdd, fI, fI0, sSeq, sIf, sSet, sIx, sRetV, sRet, sRetN, sNext, sDrop, sAsg, tsAnd, tsOr, tsNot, tsV, rOp, rVar, rC, HTr.rIx, ixL, start0, fEq, eqAtom, strip_pin, strip_at, strip_non, strip_bl, strip_int, strip_str, strip_ftup, strip_flst, strip_fdct, strip_fobj, strip_box, strip_scr, strip_tup, strip_lst, strip_dct, strip_obj, L.tree, L.trees, L.isFz, rCa, fLen, aCons, aNil, fCmp, pVar, endOf, backs, rAndV, rOrV, rNotV, rIf, rChain, rLst, rTup, mkTup, fInStr, fInSeq, fIsN, T.isNon, gSlot, gTupT, gsCons, gsNil, rSl, oNone, oSome, fSl, itemsF_fz, itemsF_fzc, trees_fzc, itemsF_lst, itemsF_tup, itemsF_str, itemsF_scr, itemsFT_tup, itemsFT_lst, itemsFT_str, itemsFT_scr, cut_to, frz_map, frz_cons, frz_nil, rIs, T.ty?, tyIs, rFld, look]
                exact h
              · simp [true_and, -List.map_take, -List.map_drop, cut_map, atI_lit, ixN_lit, fAdd, fI, fI0, sSeq, sIf, sSet, sIx, sRetV, sRet, sRetN, sNext, sDrop, sAsg, tsAnd, tsOr, tsNot, tsV, rOp, rVar, rC, HTr.rIx, ixL, start0, fEq, eqAtom, strip_pin, strip_at, strip_non, strip_bl, strip_int, strip_str, strip_ftup, strip_flst, strip_fdct, strip_fobj, strip_box, strip_scr, strip_tup, strip_lst, strip_dct, strip_obj, L.tree, L.trees, L.isFz, rCa, fLen, aCons, aNil, fCmp, pVar, endOf, backs, rAndV, rOrV, rNotV, rIf, rChain, rLst, rTup, mkTup, fInStr, fInSeq, fIsN, T.isNon, gSlot, gTupT, gsCons, gsNil, rSl, oNone, oSome, fSl, itemsF_fz, itemsF_fzc, trees_fzc, itemsF_lst, itemsF_tup, itemsF_str, itemsF_scr, itemsFT_tup, itemsFT_lst, itemsFT_str, itemsFT_scr, cut_to, frz_map, frz_cons, frz_nil, rIs, T.ty?, tyIs, rFld, look]
                exact h
              · simp [true_and, -List.map_take, -List.map_drop, cut_map, atI_lit, ixN_lit, fAdd, fI, fI0, sSeq, sIf, sSet, sIx, sRetV, sRet, sRetN, sNext, sDrop, sAsg, tsAnd, tsOr, tsNot, tsV, rOp, rVar, rC, HTr.rIx, ixL, start0, fEq, eqAtom, strip_pin, strip_at, strip_non, strip_bl, strip_int, strip_str, strip_ftup, strip_flst, strip_fdct, strip_fobj, strip_box, strip_scr, strip_tup, strip_lst, strip_dct, strip_obj, L.tree, L.trees, L.isFz, rCa, fLen, aCons, aNil, fCmp, pVar, endOf, backs, rAndV, rOrV, rNotV, rIf, rChain, rLst, rTup, mkTup, fInStr, fInSeq, fIsN, T.isNon, gSlot, gTupT, gsCons, gsNil, rSl, oNone, oSome, fSl, itemsF_fz, itemsF_fzc, trees_fzc, itemsF_lst, itemsF_tup, itemsF_str, itemsF_scr, itemsFT_tup, itemsFT_lst, itemsFT_str, itemsFT_scr, cut_to, frz_map, frz_cons, frz_nil, rIs, T.ty?, tyIs, rFld, look]
                exact h
              simp [true_and, -List.map_take, -List.map_drop, cut_map, atI_lit, ixN_lit, fAdd, fI, fI0, sSeq, sIf, sSet, sIx, sRetV, sRet, sRetN, sNext, sDrop, sAsg, tsAnd, tsOr, tsNot, tsV, rOp, rVar, rC, HTr.rIx, ixL, start0, fEq, eqAtom, strip_pin, strip_at, strip_non, strip_bl, strip_int, strip_str, strip_ftup, strip_flst, strip_fdct, strip_fobj, strip_box, strip_scr, strip_tup, strip_lst, strip_dct, strip_obj, L.tree, L.trees, L.isFz, rCa, fLen, aCons, aNil, fCmp, pVar, endOf, backs, rAndV, rOrV, rNotV, rIf, rChain, rLst, rTup, mkTup, fInStr, fInSeq, fIsN, T.isNon, gSlot, gTupT, gsCons, gsNil, rSl, oNone, oSome, fSl, itemsF_fz, itemsF_fzc, trees_fzc, itemsF_lst, itemsF_tup, itemsF_str, itemsF_scr, itemsFT_tup, itemsFT_lst, itemsFT_str, itemsFT_scr, cut_to, frz_map, frz_cons, frz_nil, rIs, T.ty?, tyIs, rFld, look]
              exact ih2 k1' k2' v1' v2' _ _ _ (by rw [onF_app] at d1'; simpa using d1') (by rw [bkF_app] at d2'; simpa using d2')
          have z := loop as' [] [] [] [] [] o5 o6 o7 rfl ⟨rfl, Nat.zero_le _, by simp, fun q => rfl⟩ ⟨rfl, Nat.zero_le _, by simp, fun q => rfl⟩
          have z2 := z
          simp only [dD, List.map_nil] at z2
          simp [sForP, look, ofStr_inj, -List.map_take, -List.map_drop, cut_map, atI_lit, ixN_lit, fAdd, fI, fI0, sSeq, sIf, sSet, sIx, sRetV, sRet, sRetN, sNext, sDrop, sAsg, tsAnd, tsOr, tsNot, tsV, rOp, rVar, rC, HTr.rIx, ixL, start0, fEq, eqAtom, strip_pin, strip_at, strip_non, strip_bl, strip_int, strip_str, strip_ftup, strip_flst, strip_fdct, strip_fobj, strip_box, strip_scr, strip_tup, strip_lst, strip_dct, strip_obj, L.tree, L.trees, L.isFz, rCa, fLen, aCons, aNil, fCmp, pVar, endOf, backs, rAndV, rOrV, rNotV, rIf, rChain, rLst, rTup, mkTup, fInStr, fInSeq, fIsN, T.isNon, gSlot, gTupT, gsCons, gsNil, rSl, oNone, oSome, fSl, itemsF_fz, itemsF_fzc, trees_fzc, itemsF_lst, itemsF_tup, itemsF_str, itemsF_scr, itemsFT_tup, itemsFT_lst, itemsFT_str, itemsFT_scr, cut_to, frz_map, frz_cons, frz_nil, rIs, T.ty?, tyIs, rFld, look]
          refine ⟨p, List.map ((fun k => L.fz (tkey k)) ∘ Arw.k) as', _, _, _, ⟨rfl, rfl, rfl⟩, by simp [look, ofStr_inj], ?_, ?_⟩
          · intro u hu
            obtain ⟨y, _, rfl⟩ := List.mem_map.mp hu
            rfl
          · have e2 : L.trees (List.map ((fun k => L.fz (tkey k)) ∘ Arw.k) as') = as'.map Arw.t := trees_fzc Arw.t as'
            rw [e2]
            exact z2
        have fin : ∀ (ms' : List Mrk), SrtM ms ms' → True := fun _ _ => trivial
        have sm : srtSet (ms.map Mrk.k) fun u => k7 [some (L.pin x (L.obj C [Str.ofString "many", Str.ofString "spots_there", Str.ofString "arrow_list", Str.ofString "mark_list"] [L.fz (T.int n), L.lst ((rgT 0 n).map L.fz), L.pin p (L.lst ((as'.map Arw.k).map fun k => L.fz (tkey k))), u])),
          some (L.fz (T.int n)), some (L.fz ta), some (L.fz tm), o4, o5, o6, o7, o8, o9] := by
          refine ⟨fun i => i == 0, fun kk h => ?_, fun us nd mem ord => ?_⟩
          · obtain ⟨y, _, e⟩ := List.mem_map.mp h
            subst e
            exact ⟨rfl, by simp [Mrk.k]⟩
          · obtain ⟨ms', e, sr⟩ := srtM_of nd mem ord
            subst e
            exact next7 ms' sr
        rcases htm with e | e <;> subst e
        · simp [HTr.sFld, putN, putX, rSortSet, wipeS, ofStr_inj, -List.map_take, -List.map_drop, cut_map, atI_lit, ixN_lit, fAdd, fI, fI0, sSeq, sIf, sSet, sIx, sRetV, sRet, sRetN, sNext, sDrop, sAsg, tsAnd, tsOr, tsNot, tsV, rOp, rVar, rC, HTr.rIx, ixL, start0, fEq, eqAtom, strip_pin, strip_at, strip_non, strip_bl, strip_int, strip_str, strip_ftup, strip_flst, strip_fdct, strip_fobj, strip_box, strip_scr, strip_tup, strip_lst, strip_dct, strip_obj, L.tree, L.trees, L.isFz, rCa, fLen, aCons, aNil, fCmp, pVar, endOf, backs, rAndV, rOrV, rNotV, rIf, rChain, rLst, rTup, mkTup, fInStr, fInSeq, fIsN, T.isNon, gSlot, gTupT, gsCons, gsNil, rSl, oNone, oSome, fSl, itemsF_fz, itemsF_fzc, trees_fzc, itemsF_lst, itemsF_tup, itemsF_str, itemsF_scr, itemsFT_tup, itemsFT_lst, itemsFT_str, itemsFT_scr, cut_to, frz_map, frz_cons, frz_nil, rIs, T.ty?, tyIs, rFld, look]
          refine compM _ _ _ _ _ _ _ _ ms [] _ (by simpa using lm) ?_
          simpa using sm
        · simp [HTr.sFld, putN, putX, rSortSet, wipeS, ofStr_inj, -List.map_take, -List.map_drop, cut_map, atI_lit, ixN_lit, fAdd, fI, fI0, sSeq, sIf, sSet, sIx, sRetV, sRet, sRetN, sNext, sDrop, sAsg, tsAnd, tsOr, tsNot, tsV, rOp, rVar, rC, HTr.rIx, ixL, start0, fEq, eqAtom, strip_pin, strip_at, strip_non, strip_bl, strip_int, strip_str, strip_ftup, strip_flst, strip_fdct, strip_fobj, strip_box, strip_scr, strip_tup, strip_lst, strip_dct, strip_obj, L.tree, L.trees, L.isFz, rCa, fLen, aCons, aNil, fCmp, pVar, endOf, backs, rAndV, rOrV, rNotV, rIf, rChain, rLst, rTup, mkTup, fInStr, fInSeq, fIsN, T.isNon, gSlot, gTupT, gsCons, gsNil, rSl, oNone, oSome, fSl, itemsF_fz, itemsF_fzc, trees_fzc, itemsF_lst, itemsF_tup, itemsF_str, itemsF_scr, itemsFT_tup, itemsFT_lst, itemsFT_str, itemsFT_scr, cut_to, frz_map, frz_cons, frz_nil, rIs, T.ty?, tyIs, rFld, look]
          refine compM _ _ _ _ _ _ _ _ ms [] _ (by simpa using lm) ?_
          simpa using sm
      have sa : srtSet (as.map Arw.k) fun u => isLst u = true ∧ ∀ p : Nat, k6 [some (L.pin x (L.obj C [Str.ofString "many", Str.ofString "spots_there", Str.ofString "arrow_list"] [L.fz (T.int n), L.lst ((rgT 0 n).map L.fz), L.pin p u])),
          some (L.fz (T.int n)), some (L.fz ta), some (L.fz tm), o4, o5, o6, o7, o8, o9] := by
        refine ⟨fun i => i == 0, fun kk h => ?_, fun us nd mem ord => ?_⟩
        · obtain ⟨y, _, e⟩ := List.mem_map.mp h
          subst e
          exact ⟨rfl, by simp [Arw.k]⟩
        · obtain ⟨as', e, sr⟩ := srtA_of nd mem ord
          subst e
          exact ⟨rfl, fun p => next6 as' p sr⟩
      rcases hta with e | e <;> subst e
      · simp [HTr.sFld, putN, putX, rPinned, rSortSet, wipeS, ofStr_inj, -List.map_take, -List.map_drop, cut_map, atI_lit, ixN_lit, fAdd, fI, fI0, sSeq, sIf, sSet, sIx, sRetV, sRet, sRetN, sNext, sDrop, sAsg, tsAnd, tsOr, tsNot, tsV, rOp, rVar, rC, HTr.rIx, ixL, start0, fEq, eqAtom, strip_pin, strip_at, strip_non, strip_bl, strip_int, strip_str, strip_ftup, strip_flst, strip_fdct, strip_fobj, strip_box, strip_scr, strip_tup, strip_lst, strip_dct, strip_obj, L.tree, L.trees, L.isFz, rCa, fLen, aCons, aNil, fCmp, pVar, endOf, backs, rAndV, rOrV, rNotV, rIf, rChain, rLst, rTup, mkTup, fInStr, fInSeq, fIsN, T.isNon, gSlot, gTupT, gsCons, gsNil, rSl, oNone, oSome, fSl, itemsF_fz, itemsF_fzc, trees_fzc, itemsF_lst, itemsF_tup, itemsF_str, itemsF_scr, itemsFT_tup, itemsFT_lst, itemsFT_str, itemsFT_scr, cut_to, frz_map, frz_cons, frz_nil, rIs, T.ty?, tyIs, rFld, look]
        refine compA _ _ _ _ _ _ _ as [] _ (by simpa using la) ?_
        simpa using sa
      · simp [HTr.sFld, putN, putX, rPinned, rSortSet, wipeS, ofStr_inj, -List.map_take, -List.map_drop, cut_map, atI_lit, ixN_lit, fAdd, fI, fI0, sSeq, sIf, sSet, sIx, sRetV, sRet, sRetN, sNext, sDrop, sAsg, tsAnd, tsOr, tsNot, tsV, rOp, rVar, rC, HTr.rIx, ixL, start0, fEq, eqAtom, strip_pin, strip_at, strip_non, strip_bl, strip_int, strip_str, strip_ftup, strip_flst, strip_fdct, strip_fobj, strip_box, strip_scr, strip_tup, strip_lst, strip_dct, strip_obj, L.tree, L.trees, L.isFz, rCa, fLen, aCons, aNil, fCmp, pVar, endOf, backs, rAndV, rOrV, rNotV, rIf, rChain, rLst, rTup, mkTup, fInStr, fInSeq, fIsN, T.isNon, gSlot, gTupT, gsCons, gsNil, rSl, oNone, oSome, fSl, itemsF_fz, itemsF_fzc, trees_fzc, itemsF_lst, itemsF_tup, itemsF_str, itemsF_scr, itemsFT_tup, itemsFT_lst, itemsFT_str, itemsFT_scr, cut_to, frz_map, frz_cons, frz_nil, rIs, T.ty?, tyIs, rFld, look]
        refine compA _ _ _ _ _ _ _ as [] _ (by simpa using la) ?_
        simpa using sa
    have loop : ∀ (ps : List (Nat × Mrk)) (o4 o8 o9 : Option L), (∀ p ∈ ps, p.2.ok n) → forL (gTupT (gsCons (gSlot 4) (gsCons (gTupT (gsCons (gSlot 8) (gsCons (gSlot 9) gsNil)) 2) gsNil)) 2)
        (sIf (tsOr (tsNot (tsV (rCall spMrk [] (aCons (rVar 8) aNil)))) (tsNot (tsV (rChain (fCmp fun i j => decide (i ≤ j)) (fCmp fun i j => decide (i < j)) (rC (.int 0)) (rVar 9) (rVar 1))))) sNever sNext)
        (ps.map fun p => T.tup [.int p.1, p.2.t]) { nx := k3, rt := fun r S => ∃ ls', backs [L.pin x (L.obj C [] []), L.fz (T.int n), L.fz ta, L.fz tm] S = some ls' ∧ G r ls' }
        [some (.pin x (.obj C [] [])), some (.fz (.int n)), some (.fz ta), some (.fz tm), o4, o5, o6, o7, o8, o9] := by
      intro ps
      induction ps with
      | nil => intro o4 o8 o9 _; exact next3 o4 o8 o9
      | cons p ps ih =>
        intro o4 o8 o9 hp
        obtain ⟨hc, h1⟩ := hp p (by simp)
        have nxt := ih (some (.fz (.int p.1))) (some (.fz (.str p.2.c))) (some (.fz (.int p.2.a))) fun q hq => hp q (by simp [hq])
        rw [List.map_cons]
        unfold forL
        revert nxt
        generalize forL _ _ (ps.map _) _ = cont
        intro nxt
        have g1 : (p.2.a : Int) < n := by omega
        simp [Mrk.t, rCall, g1, spMrk, -List.map_take, -List.map_drop, cut_map, atI_lit, ixN_lit, fAdd, fI, fI0, sSeq, sIf, sSet, sIx, sRetV, sRet, sRetN, sNext, sDrop, sAsg, tsAnd, tsOr, tsNot, tsV, rOp, rVar, rC, HTr.rIx, ixL, start0, fEq, eqAtom, strip_pin, strip_at, strip_non, strip_bl, strip_int, strip_str, strip_ftup, strip_flst, strip_fdct, strip_fobj, strip_box, strip_scr, strip_tup, strip_lst, strip_dct, strip_obj, L.tree, L.trees, L.isFz, rCa, fLen, aCons, aNil, fCmp, pVar, endOf, backs, rAndV, rOrV, rNotV, rIf, rChain, rLst, rTup, mkTup, fInStr, fInSeq, fIsN, T.isNon, gSlot, gTupT, gsCons, gsNil, rSl, oNone, oSome, fSl, itemsF_fz, itemsF_fzc, trees_fzc, itemsF_lst, itemsF_tup, itemsF_str, itemsF_scr, itemsFT_tup, itemsFT_lst, itemsFT_str, itemsFT_scr, cut_to, frz_map, frz_cons, frz_nil, rIs, T.ty?, tyIs, rFld, look]
        exact ⟨_, hc, rfl, nxt⟩
    obtain ⟨ps, eps, hps⟩ := enum_map Mrk.t ms
    have z := loop ps o4 none none fun p hp => hm _ (hps p hp)
    rw [← eps] at z
    rcases htm with e | e <;> subst e
    · simp [sForE, -List.map_take, -List.map_drop, cut_map, atI_lit, ixN_lit, fAdd, fI, fI0, sSeq, sIf, sSet, sIx, sRetV, sRet, sRetN, sNext, sDrop, sAsg, tsAnd, tsOr, tsNot, tsV, rOp, rVar, rC, HTr.rIx, ixL, start0, fEq, eqAtom, strip_pin, strip_at, strip_non, strip_bl, strip_int, strip_str, strip_ftup, strip_flst, strip_fdct, strip_fobj, strip_box, strip_scr, strip_tup, strip_lst, strip_dct, strip_obj, L.tree, L.trees, L.isFz, rCa, fLen, aCons, aNil, fCmp, pVar, endOf, backs, rAndV, rOrV, rNotV, rIf, rChain, rLst, rTup, mkTup, fInStr, fInSeq, fIsN, T.isNon, gSlot, gTupT, gsCons, gsNil, rSl, oNone, oSome, fSl, itemsF_fz, itemsF_fzc, trees_fzc, itemsF_lst, itemsF_tup, itemsF_str, itemsF_scr, itemsFT_tup, itemsFT_lst, itemsFT_str, itemsFT_scr, cut_to, frz_map, frz_cons, frz_nil, rIs, T.ty?, tyIs, rFld, look]
      simpa using z
    · simp [sForE, -List.map_take, -List.map_drop, cut_map, atI_lit, ixN_lit, fAdd, fI, fI0, sSeq, sIf, sSet, sIx, sRetV, sRet, sRetN, sNext, sDrop, sAsg, tsAnd, tsOr, tsNot, tsV, rOp, rVar, rC, HTr.rIx, ixL, start0, fEq, eqAtom, strip_pin, strip_at, strip_non, strip_bl, strip_int, strip_str, strip_ftup, strip_flst, strip_fdct, strip_fobj, strip_box, strip_scr, strip_tup, strip_lst, strip_dct, strip_obj, L.tree, L.trees, L.isFz, rCa, fLen, aCons, aNil, fCmp, pVar, endOf, backs, rAndV, rOrV, rNotV, rIf, rChain, rLst, rTup, mkTup, fInStr, fInSeq, fIsN, T.isNon, gSlot, gTupT, gsCons, gsNil, rSl, oNone, oSome, fSl, itemsF_fz, itemsF_fzc, trees_fzc, itemsF_lst, itemsF_tup, itemsF_str, itemsF_scr, itemsFT_tup, itemsFT_lst, itemsFT_str, itemsFT_scr, cut_to, frz_map, frz_cons, frz_nil, rIs, T.ty?, tyIs, rFld, look]
      simpa using z
  have loop : ∀ (ps : List (Nat × Arw)) (o4 o5 o6 o7 : Option L), (∀ p ∈ ps, p.2.ok n) → forL (gTupT (gsCons (gSlot 4) (gsCons (gTupT (gsCons (gSlot 5) (gsCons (gSlot 6) (gsCons (gSlot 7) gsNil))) 3) gsNil)) 2)
      (sIf (tsOr (tsNot (tsV (rCall spCol [] (aCons (rVar 5) aNil)))) (tsOr (tsNot (tsV (rChain (fCmp fun i j => decide (i ≤ j)) (fCmp fun i j => decide (i < j)) (rC (.int 0)) (rVar 6) (rVar 1)))) (tsNot (tsV (rChain (fCmp fun i j => decide (i ≤ j)) (fCmp fun i j => decide (i < j)) (rC (.int 0)) (rVar 7) (rVar 1)))))) sNever sNext)
      (ps.map fun p => T.tup [.int p.1, p.2.t]) { nx := k2, rt := fun r S => ∃ ls', backs [L.pin x (L.obj C [] []), L.fz (T.int n), L.fz ta, L.fz tm] S = some ls' ∧ G r ls' }
      [some (.pin x (.obj C [] [])), some (.fz (.int n)), some (.fz ta), some (.fz tm), o4, o5, o6, o7, none, none] := by
    intro ps
    induction ps with
    | nil => intro o4 o5 o6 o7 _; exact next2 o4 o5 o6 o7
    | cons p ps ih =>
      intro o4 o5 o6 o7 hp
      obtain ⟨hc, h1, h2⟩ := hp p (by simp)
      have nxt := ih (some (.fz (.int p.1))) (some (.fz (.str p.2.c))) (some (.fz (.int p.2.a))) (some (.fz (.int p.2.b))) fun q hq => hp q (by simp [hq])
      rw [List.map_cons]
      unfold forL
      revert nxt
      generalize forL _ _ (ps.map _) _ = cont
      intro nxt
      have g1 : (p.2.a : Int) < n := by omega
      have g2 : (p.2.b : Int) < n := by omega
      simp [Arw.t, rCall, g1, g2, spCol, -List.map_take, -List.map_drop, cut_map, atI_lit, ixN_lit, fAdd, fI, fI0, sSeq, sIf, sSet, sIx, sRetV, sRet, sRetN, sNext, sDrop, sAsg, tsAnd, tsOr, tsNot, tsV, rOp, rVar, rC, HTr.rIx, ixL, start0, fEq, eqAtom, strip_pin, strip_at, strip_non, strip_bl, strip_int, strip_str, strip_ftup, strip_flst, strip_fdct, strip_fobj, strip_box, strip_scr, strip_tup, strip_lst, strip_dct, strip_obj, L.tree, L.trees, L.isFz, rCa, fLen, aCons, aNil, fCmp, pVar, endOf, backs, rAndV, rOrV, rNotV, rIf, rChain, rLst, rTup, mkTup, fInStr, fInSeq, fIsN, T.isNon, gSlot, gTupT, gsCons, gsNil, rSl, oNone, oSome, fSl, itemsF_fz, itemsF_fzc, trees_fzc, itemsF_lst, itemsF_tup, itemsF_str, itemsF_scr, itemsFT_tup, itemsFT_lst, itemsFT_str, itemsFT_scr, cut_to, frz_map, frz_cons, frz_nil, rIs, T.ty?, tyIs, rFld, look]
      exact ⟨_, hc, rfl, nxt⟩
  obtain ⟨ps, eps, hps⟩ := enum_map Arw.t as
  have z := loop ps none none none none fun p hp => ha _ (hps p hp)
  rw [← eps] at z
  rcases hta with e | e <;> subst e
  · simp [sForE, -List.map_take, -List.map_drop, cut_map, atI_lit, ixN_lit, fAdd, fI, fI0, sSeq, sIf, sSet, sIx, sRetV, sRet, sRetN, sNext, sDrop, sAsg, tsAnd, tsOr, tsNot, tsV, rOp, rVar, rC, HTr.rIx, ixL, start0, fEq, eqAtom, strip_pin, strip_at, strip_non, strip_bl, strip_int, strip_str, strip_ftup, strip_flst, strip_fdct, strip_fobj, strip_box, strip_scr, strip_tup, strip_lst, strip_dct, strip_obj, L.tree, L.trees, L.isFz, rCa, fLen, aCons, aNil, fCmp, pVar, endOf, backs, rAndV, rOrV, rNotV, rIf, rChain, rLst, rTup, mkTup, fInStr, fInSeq, fIsN, T.isNon, gSlot, gTupT, gsCons, gsNil, rSl, oNone, oSome, fSl, itemsF_fz, itemsF_fzc, trees_fzc, itemsF_lst, itemsF_tup, itemsF_str, itemsF_scr, itemsFT_tup, itemsFT_lst, itemsFT_str, itemsFT_scr, cut_to, frz_map, frz_cons, frz_nil, rIs, T.ty?, tyIs, rFld, look]
    simpa using z
  · simp [sForE, -List.map_take, -List.map_drop, cut_map, atI_lit, ixN_lit, fAdd, fI, fI0, sSeq, sIf, sSet, sIx, sRetV, sRet, sRetN, sNext, sDrop, sAsg, tsAnd, tsOr, tsNot, tsV, rOp, rVar, rC, HTr.rIx, ixL, start0, fEq, eqAtom, strip_pin, strip_at, strip_non, strip_bl, strip_int, strip_str, strip_ftup, strip_flst, strip_fdct, strip_fobj, strip_box, strip_scr, strip_tup, strip_lst, strip_dct, strip_obj, L.tree, L.trees, L.isFz, rCa, fLen, aCons, aNil, fCmp, pVar, endOf, backs, rAndV, rOrV, rNotV, rIf, rChain, rLst, rTup, mkTup, fInStr, fInSeq, fIsN, T.isNon, gSlot, gTupT, gsCons, gsNil, rSl, oNone, oSome, fSl, itemsF_fz, itemsF_fzc, trees_fzc, itemsF_lst, itemsF_tup, itemsF_str, itemsF_scr, itemsFT_tup, itemsFT_lst, itemsFT_str, itemsFT_scr, cut_to, frz_map, frz_cons, frz_nil, rIs, T.ty?, tyIs, rFld, look]
    simpa using z
end W
namespace W
open PySem L2 HTr
def spWeb : SpT := fun ls G => ∃ (b low high : Nat), ls = [.fz (.box b), .fz (.int low), .fz (.int high)] ∧ low ≤ high ∧ high ≤ 27 ∧ ∀ w : Wb, low ≤ w.n → w.n ≤ high → w.ok → w.as.length ≤ 2 * high + 3 → w.ms.length ≤ high + 2 →
  G (.tup [.fz (.int w.n), fzA w.as, fzM w.ms]) []
theorem web_arrows (b n m : Nat) (hm : m ≤ big) (h0 : 0 < n) (hn : n ≤ big) (s1 s2 s4 s5 s6 : Option L) : ∀ (rest : List T) (as : List Arw) (o7 : Option L) (Q : List L → Prop), (∀ y ∈ as, y.ok n) → as.length + rest.length ≤ m →
    (∀ as' : List Arw, (∀ y ∈ as', y.ok n) → as'.length ≤ m → Q ((as'.map Arw.t).map .fz)) →
    compL (gSlot 7) cYes (rCall spArrow [] (aCons (rVar 0) (aCons (rVar 3) aNil))) rest [some (.fz (.box b)), s1, s2, some (.fz (.int n)), s4, s5, s6, none] ((as.map Arw.t).map .fz) Q
  | [], as, _, Q, ha, hl, q => by
    unfold compL
    exact q as ha (by simpa using hl)
  | t :: rest, as, o7, Q, ha, hl, q => by
    have nxt := fun x (hx : Arw.ok n x) => web_arrows b n m hm h0 hn s1 s2 s4 s5 s6 rest (as ++ [x]) o7 Q (fun y hy => by
      rcases List.mem_append.mp hy with h | h
      · exact ha y h
      · simp at h; subst h; exact hx) (by simp at hl ⊢; omega) q
    have hz : as.length < sizeLine := by
      have : big < sizeLine := by decide
      simp at hl
      omega
    unfold compL
    revert nxt
    generalize compL (gSlot 7) _ _ rest = cont
    intro nxt
    simp [rCall, cYes, hz, -List.map_take, -List.map_drop, cut_map, atI_lit, ixN_lit, fAdd, fI, fI0, sSeq, sIf, sSet, sIx, sRetV, sRet, sRetN, sNext, sDrop, sAsg, tsAnd, tsOr, tsNot, tsV, rOp, rVar, rC, HTr.rIx, ixL, start0, fEq, eqAtom, strip_pin, strip_at, strip_non, strip_bl, strip_int, strip_str, strip_ftup, strip_flst, strip_fdct, strip_fobj, strip_box, strip_scr, strip_tup, strip_lst, strip_dct, strip_obj, L.tree, L.trees, L.isFz, rCa, fLen, aCons, aNil, fCmp, pVar, endOf, backs, rAndV, rOrV, rNotV, rIf, rChain, rLst, rTup, mkTup, fInStr, fInSeq, fIsN, T.isNon, gSlot, gTupT, gsCons, gsNil, rSl, oNone, oSome, fSl, itemsF_fz, itemsF_fzc, trees_fzc, itemsF_lst, itemsF_tup, itemsF_str, itemsF_scr, itemsFT_tup, itemsFT_lst, itemsFT_str, itemsFT_scr, cut_to, frz_map, frz_cons, frz_nil, rIs, T.ty?, tyIs, rFld, look]
    refine ⟨b, n, rfl, h0, hn, fun x hx => ?_⟩
    simpa using nxt x hx
theorem web_marks (b n m : Nat) (hm : m ≤ big) (h0 : 0 < n) (hn : n ≤ big) (s1 s2 s4 s5 s6 : Option L) : ∀ (rest : List T) (ms : List Mrk) (Q : List L → Prop), (∀ y ∈ ms, y.ok n) → ms.length + rest.length ≤ m →
    (∀ ms' : List Mrk, (∀ y ∈ ms', y.ok n) → ms'.length ≤ m → Q ((ms'.map Mrk.t).map .fz)) →
    compL (gSlot 7) cYes (rTup (aCons (rCall spSign [] (aCons (rVar 0) aNil)) (aCons (rCall spTake [] (aCons (rVar 0) (aCons (rVar 3) aNil))) aNil))) rest [some (.fz (.box b)), s1, s2, some (.fz (.int n)), s4, s5, s6, none] ((ms.map Mrk.t).map .fz) Q
  | [], ms, Q, ha, hl, q => by
    unfold compL
    exact q ms ha (by simpa using hl)
  | t :: rest, ms, Q, ha, hl, q => by
    have nxt := fun x (hx : Mrk.ok n x) => web_marks b n m hm h0 hn s1 s2 s4 s5 s6 rest (ms ++ [x]) Q (fun y hy => by
      rcases List.mem_append.mp hy with h | h
      · exact ha y h
      · simp at h; subst h; exact hx) (by simp at hl ⊢; omega) q
    have hz : ms.length < sizeLine := by
      have : big < sizeLine := by decide
      simp at hl
      omega
    have hb : big = 1000000 := rfl
    unfold compL
    revert nxt
    generalize compL (gSlot 7) _ _ rest = cont
    intro nxt
    simp [rCall, cYes, hz, -List.map_take, -List.map_drop, cut_map, atI_lit, ixN_lit, fAdd, fI, fI0, sSeq, sIf, sSet, sIx, sRetV, sRet, sRetN, sNext, sDrop, sAsg, tsAnd, tsOr, tsNot, tsV, rOp, rVar, rC, HTr.rIx, ixL, start0, fEq, eqAtom, strip_pin, strip_at, strip_non, strip_bl, strip_int, strip_str, strip_ftup, strip_flst, strip_fdct, strip_fobj, strip_box, strip_scr, strip_tup, strip_lst, strip_dct, strip_obj, L.tree, L.trees, L.isFz, rCa, fLen, aCons, aNil, fCmp, pVar, endOf, backs, rAndV, rOrV, rNotV, rIf, rChain, rLst, rTup, mkTup, fInStr, fInSeq, fIsN, T.isNon, gSlot, gTupT, gsCons, gsNil, rSl, oNone, oSome, fSl, itemsF_fz, itemsF_fzc, trees_fzc, itemsF_lst, itemsF_tup, itemsF_str, itemsF_scr, itemsFT_tup, itemsFT_lst, itemsFT_str, itemsFT_scr, cut_to, frz_map, frz_cons, frz_nil, rIs, T.ty?, tyIs, rFld, look]
    refine ⟨b, rfl, fun c hc => take_use (by omega) (by omega) fun r h1 h2 => ?_⟩
    obtain ⟨x, rfl⟩ := Int.eq_ofNat_of_zero_le h1
    have z := nxt ⟨c, x⟩ ⟨hc, by show x < n; omega⟩
    refine ⟨by decide, ?_⟩
    simpa [L.tree, Mrk.t] using z
theorem lent_map {α : Type} (f : α → T) : ∀ xs : List α, L.lent (.lst (xs.map (L.fz ∘ f))) = true := by
  intro xs
  simp [L.lent]
  exact fun _ _ => rfl
theorem thin_kk (kk : List Key) : T.thin (tkey kk) = true := by
  have : T.thins (kk.map keyT) = true := by
    induction kk with
    | nil => rfl
    | cons k kk ih => cases k <;> simp [T.thins, keyT, T.thin, ih]
  simpa [T.thin, tkey] using this
theorem thin_keys : ∀ us : List (List Key), L.thin (.lst ((us.map tkey).map .fz)) = true
  | [] => rfl
  | u :: us => by
    have z := thin_keys us
    simp only [L.thin] at z
    simp only [L.thin, List.map_cons, L.thins, thin_kk, z, Bool.and_self]
theorem colP : ∀ c ∈ cols, kOk (.inr c) = true := by decide +kernel
theorem mrkP : ∀ c ∈ mrks, kOk (.inr c) = true := by decide +kernel
theorem keyA {n : Nat} (y : Arw) (hn : n ≤ big) (h : y.ok n) : y.k.all kOk = true := by
  simp only [Arw.k, List.all_cons, List.all_nil, colP _ h.1, Bool.true_and, Bool.and_true]
  simp [kOk]
theorem keyM {n : Nat} (y : Mrk) (hn : n ≤ big) (h : y.ok n) : y.k.all kOk = true := by
  simp only [Mrk.k, List.all_cons, List.all_nil, mrkP _ h.1, Bool.true_and, Bool.and_true]
  simp [kOk]
theorem vc_law_web : ∀ ls G, spWeb ls G → m_law_web spTake spOne spArrow spSign spUnlike (endOf ls G) (start0 N_law_web.length ls) := by
  rintro ls G ⟨b, low, high, rfl, hlh, hh, hG⟩
  have hb : big = 1000000 := rfl
  unfold m_law_web
  refine seq_gen fun k1 hk1 => ?_
  simp [rCall, -List.map_take, -List.map_drop, cut_map, atI_lit, ixN_lit, fAdd, fI, fI0, sSeq, sIf, sSet, sIx, sRetV, sRet, sRetN, sNext, sDrop, sAsg, tsAnd, tsOr, tsNot, tsV, rOp, rVar, rC, HTr.rIx, ixL, start0, fEq, eqAtom, strip_pin, strip_at, strip_non, strip_bl, strip_int, strip_str, strip_ftup, strip_flst, strip_fdct, strip_fobj, strip_box, strip_scr, strip_tup, strip_lst, strip_dct, strip_obj, L.tree, L.trees, L.isFz, rCa, fLen, aCons, aNil, fCmp, pVar, endOf, backs, rAndV, rOrV, rNotV, rIf, rChain, rLst, rTup, mkTup, fInStr, fInSeq, fIsN, T.isNon, gSlot, gTupT, gsCons, gsNil, rSl, oNone, oSome, fSl, itemsF_fz, itemsF_fzc, trees_fzc, itemsF_lst, itemsF_tup, itemsF_str, itemsF_scr, itemsFT_tup, itemsFT_lst, itemsFT_str, itemsFT_scr, cut_to, frz_map, frz_cons, frz_nil, rIs, T.ty?, tyIs, rFld, look]
  refine take_use (by omega) (by omega) fun r h0 h1 => ?_
  obtain ⟨r, rfl⟩ := Int.eq_ofNat_of_zero_le h0
  have key : ∀ n : Nat, low ≤ n → n ≤ high → k1 [some (L.fz (.box b)), some (L.fz (.int low)), some (L.fz (.int high)), some (L.fz (.int n)), none, none, none, none] := by
    clear h0 h1 r
    intro n hl hn
    refine hk1 _ ?_
    refine seq_gen fun k2 hk2 => ?_
    by_cases n0 : n = 0
    · subst n0
      have z := hG ⟨0, [], []⟩ hl (Nat.zero_le _) ⟨by decide, by simp, by simp, ⟨List.nodup_nil, fun y => Iff.rfl, List.Pairwise.nil⟩, ⟨List.nodup_nil, fun y => Iff.rfl, List.Pairwise.nil⟩⟩ (by simp) (by simp)
      simp [true_and, -List.map_take, -List.map_drop, cut_map, atI_lit, ixN_lit, fAdd, fI, fI0, sSeq, sIf, sSet, sIx, sRetV, sRet, sRetN, sNext, sDrop, sAsg, tsAnd, tsOr, tsNot, tsV, rOp, rVar, rC, HTr.rIx, ixL, start0, fEq, eqAtom, strip_pin, strip_at, strip_non, strip_bl, strip_int, strip_str, strip_ftup, strip_flst, strip_fdct, strip_fobj, strip_box, strip_scr, strip_tup, strip_lst, strip_dct, strip_obj, L.tree, L.trees, L.isFz, rCa, fLen, aCons, aNil, fCmp, pVar, endOf, backs, rAndV, rOrV, rNotV, rIf, rChain, rLst, rTup, mkTup, fInStr, fInSeq, fIsN, T.isNon, gSlot, gTupT, gsCons, gsNil, rSl, oNone, oSome, fSl, itemsF_fz, itemsF_fzc, trees_fzc, itemsF_lst, itemsF_tup, itemsF_str, itemsF_scr, itemsFT_tup, itemsFT_lst, itemsFT_str, itemsFT_scr, cut_to, frz_map, frz_cons, frz_nil, rIs, T.ty?, tyIs, rFld, look]
      exact ⟨by decide, z⟩
    · simp [n0, -List.map_take, -List.map_drop, cut_map, atI_lit, ixN_lit, fAdd, fI, fI0, sSeq, sIf, sSet, sIx, sRetV, sRet, sRetN, sNext, sDrop, sAsg, tsAnd, tsOr, tsNot, tsV, rOp, rVar, rC, HTr.rIx, ixL, start0, fEq, eqAtom, strip_pin, strip_at, strip_non, strip_bl, strip_int, strip_str, strip_ftup, strip_flst, strip_fdct, strip_fobj, strip_box, strip_scr, strip_tup, strip_lst, strip_dct, strip_obj, L.tree, L.trees, L.isFz, rCa, fLen, aCons, aNil, fCmp, pVar, endOf, backs, rAndV, rOrV, rNotV, rIf, rChain, rLst, rTup, mkTup, fInStr, fInSeq, fIsN, T.isNon, gSlot, gTupT, gsCons, gsNil, rSl, oNone, oSome, fSl, itemsF_fz, itemsF_fzc, trees_fzc, itemsF_lst, itemsF_tup, itemsF_str, itemsF_scr, itemsFT_tup, itemsFT_lst, itemsFT_str, itemsFT_scr, cut_to, frz_map, frz_cons, frz_nil, rIs, T.ty?, tyIs, rFld, look]
      refine hk2 _ ?_
      refine seq_gen fun k3 hk3 => ?_
      have nx3 : ∀ c : Nat, c ≤ 2 * high + 3 → k3 [some (L.fz (.box b)), some (L.fz (.int low)), some (L.fz (.int high)), some (L.fz (.int n)), some (L.fz (.int c)), none, none, none] := by
        intro c hc
        refine hk3 _ ?_
        refine seq_gen fun k4 hk4 => ?_
        simp [rCall, rCompR1, -List.map_take, -List.map_drop, cut_map, atI_lit, ixN_lit, fAdd, fI, fI0, sSeq, sIf, sSet, sIx, sRetV, sRet, sRetN, sNext, sDrop, sAsg, tsAnd, tsOr, tsNot, tsV, rOp, rVar, rC, HTr.rIx, ixL, start0, fEq, eqAtom, strip_pin, strip_at, strip_non, strip_bl, strip_int, strip_str, strip_ftup, strip_flst, strip_fdct, strip_fobj, strip_box, strip_scr, strip_tup, strip_lst, strip_dct, strip_obj, L.tree, L.trees, L.isFz, rCa, fLen, aCons, aNil, fCmp, pVar, endOf, backs, rAndV, rOrV, rNotV, rIf, rChain, rLst, rTup, mkTup, fInStr, fInSeq, fIsN, T.isNon, gSlot, gTupT, gsCons, gsNil, rSl, oNone, oSome, fSl, itemsF_fz, itemsF_fzc, trees_fzc, itemsF_lst, itemsF_tup, itemsF_str, itemsF_scr, itemsFT_tup, itemsFT_lst, itemsFT_str, itemsFT_scr, cut_to, frz_map, frz_cons, frz_nil, rIs, T.ty?, tyIs, rFld, look]
        refine take_use (by omega) (by omega) fun r h1 h2 => ?_
        refine ⟨⟨by omega, by omega⟩, web_arrows b n (2 * high + 3) (by omega) (by omega) (by omega) _ _ _ _ _ _ [] none _ (by simp) (by simp [rangeT]; omega) fun as has las => ?_⟩
        refine hk4 _ ?_
        refine seq_gen fun k5 hk5 => ?_
        simp [rCall, rCompR1, -List.map_take, -List.map_drop, cut_map, atI_lit, ixN_lit, fAdd, fI, fI0, sSeq, sIf, sSet, sIx, sRetV, sRet, sRetN, sNext, sDrop, sAsg, tsAnd, tsOr, tsNot, tsV, rOp, rVar, rC, HTr.rIx, ixL, start0, fEq, eqAtom, strip_pin, strip_at, strip_non, strip_bl, strip_int, strip_str, strip_ftup, strip_flst, strip_fdct, strip_fobj, strip_box, strip_scr, strip_tup, strip_lst, strip_dct, strip_obj, L.tree, L.trees, L.isFz, rCa, fLen, aCons, aNil, fCmp, pVar, endOf, backs, rAndV, rOrV, rNotV, rIf, rChain, rLst, rTup, mkTup, fInStr, fInSeq, fIsN, T.isNon, gSlot, gTupT, gsCons, gsNil, rSl, oNone, oSome, fSl, itemsF_fz, itemsF_fzc, trees_fzc, itemsF_lst, itemsF_tup, itemsF_str, itemsF_scr, itemsFT_tup, itemsFT_lst, itemsFT_str, itemsFT_scr, cut_to, frz_map, frz_cons, frz_nil, rIs, T.ty?, tyIs, rFld, look]
        refine ⟨by decide, one_use (ts := [.int 0, .int 0, .int 1, .int 2, .int n]) (by simp) (by show 5 ≤ big; decide) fun t ht => ?_⟩
        have ht2 : ∃ c : Nat, c ≤ high + 2 ∧ t = .int c := by
          simp at ht
          rcases ht with rfl | rfl | rfl | rfl
          · exact ⟨0, by omega, rfl⟩
          · exact ⟨1, by omega, rfl⟩
          · exact ⟨2, by omega, rfl⟩
          · exact ⟨n, by omega, rfl⟩
        obtain ⟨d, hd, rfl⟩ := ht2
        refine ⟨⟨by omega, by omega⟩, web_marks b n (high + 2) (by omega) (by omega) (by omega) _ _ _ _ _ _ [] _ (by simp) (by simp [rangeT]; omega) fun ms hms lms => ?_⟩
        refine hk5 _ ?_
        simp [rCallT, -List.map_take, -List.map_drop, cut_map, atI_lit, ixN_lit, fAdd, fI, fI0, sSeq, sIf, sSet, sIx, sRetV, sRet, sRetN, sNext, sDrop, sAsg, tsAnd, tsOr, tsNot, tsV, rOp, rVar, rC, HTr.rIx, ixL, start0, fEq, eqAtom, strip_pin, strip_at, strip_non, strip_bl, strip_int, strip_str, strip_ftup, strip_flst, strip_fdct, strip_fobj, strip_box, strip_scr, strip_tup, strip_lst, strip_dct, strip_obj, L.tree, L.trees, L.isFz, rCa, fLen, aCons, aNil, fCmp, pVar, endOf, backs, rAndV, rOrV, rNotV, rIf, rChain, rLst, rTup, mkTup, fInStr, fInSeq, fIsN, T.isNon, gSlot, gTupT, gsCons, gsNil, rSl, oNone, oSome, fSl, itemsF_fz, itemsF_fzc, trees_fzc, itemsF_lst, itemsF_tup, itemsF_str, itemsF_scr, itemsFT_tup, itemsFT_lst, itemsFT_str, itemsFT_scr, cut_to, frz_map, frz_cons, frz_nil, rIs, T.ty?, tyIs, rFld, look]
        have f1 : frz [L.lst (List.map (L.fz ∘ Arw.t) as)] = [.fz (.lst ((as.map Arw.k).map tkey))] := by
          have e : L.trees (List.map (L.fz ∘ Arw.t) as) = as.map Arw.t := trees_fzc Arw.t as
          have e2 : (as.map Arw.k).map tkey = as.map Arw.t := by rw [List.map_map]; rfl
          rw [e2, ← e]; rfl
        have f2 : frz [L.lst (List.map (L.fz ∘ Mrk.t) ms)] = [.fz (.lst ((ms.map Mrk.k).map tkey))] := by
          have e : L.trees (List.map (L.fz ∘ Mrk.t) ms) = ms.map Mrk.t := trees_fzc Mrk.t ms
          have e2 : (ms.map Mrk.k).map tkey = ms.map Mrk.t := by rw [List.map_map]; rfl
          rw [e2, ← e]; rfl
        rw [f1, f2]
        refine ⟨lent_map Arw.t as, as.map Arw.k, fun i => i == 0, rfl, by simp; omega, fun kk h => ?_, fun us nd mem ord => ?_⟩
        · obtain ⟨y, hy, e⟩ := List.mem_map.mp h
          subst e
          exact ⟨rfl, by simp [Arw.k], keyA y (by omega) (has y hy)⟩
        obtain ⟨as', e, sA⟩ := srtA_of nd mem ord
        subst e
        refine ⟨thin_keys _, lent_map Mrk.t ms, ms.map Mrk.k, fun i => i == 0, rfl, by simp; omega, fun kk h => ?_, fun us nd mem ord => ?_⟩
        · obtain ⟨y, hy, e⟩ := List.mem_map.mp h
          subst e
          exact ⟨rfl, by simp [Mrk.k], keyM y (by omega) (hms y hy)⟩
        obtain ⟨ms', e, sM⟩ := srtM_of nd mem ord
        subst e
        refine ⟨thin_keys _, by decide, ?_⟩
        have z := hG ⟨n, as', ms'⟩ hl hn ⟨by show n ≤ 81; omega, fun y hy => has y ((sA.mem y).mp hy), fun y hy => hms y ((sM.mem y).mp hy), ⟨sA.nd, fun y => Iff.rfl, sA.ord⟩, ⟨sM.nd, fun y => Iff.rfl, sM.ord⟩⟩
          (Nat.le_trans (nodup_len sA.nd fun y hy => (sA.mem y).mp hy) las) (Nat.le_trans (nodup_len sM.nd fun y hy => (sM.mem y).mp hy) lms)
        simpa [fzA, fzM, Arw.t_k, Mrk.t_k, Function.comp_def] using z
      simp [rCall, -List.map_take, -List.map_drop, cut_map, atI_lit, ixN_lit, fAdd, fI, fI0, sSeq, sIf, sSet, sIx, sRetV, sRet, sRetN, sNext, sDrop, sAsg, tsAnd, tsOr, tsNot, tsV, rOp, rVar, rC, HTr.rIx, ixL, start0, fEq, eqAtom, strip_pin, strip_at, strip_non, strip_bl, strip_int, strip_str, strip_ftup, strip_flst, strip_fdct, strip_fobj, strip_box, strip_scr, strip_tup, strip_lst, strip_dct, strip_obj, L.tree, L.trees, L.isFz, rCa, fLen, aCons, aNil, fCmp, pVar, endOf, backs, rAndV, rOrV, rNotV, rIf, rChain, rLst, rTup, mkTup, fInStr, fInSeq, fIsN, T.isNon, gSlot, gTupT, gsCons, gsNil, rSl, oNone, oSome, fSl, itemsF_fz, itemsF_fzc, trees_fzc, itemsF_lst, itemsF_tup, itemsF_str, itemsF_scr, itemsFT_tup, itemsFT_lst, itemsFT_str, itemsFT_scr, cut_to, frz_map, frz_cons, frz_nil, rIs, T.ty?, tyIs, rFld, look]
      refine ⟨cm_of (by omega) (by omega) (by omega) (by omega), by decide, one_use (ts := [.int n, .int n, .int (2 * n), .int 3]) (by simp) (by show 4 ≤ big; decide) fun t ht => ?_⟩
      have ht2 : ∃ c : Nat, c ≤ 2 * high + 3 ∧ t = .int c := by
        simp at ht
        rcases ht with rfl | rfl | rfl
        · exact ⟨n, by omega, rfl⟩
        · exact ⟨2 * n, by omega, by simp⟩
        · exact ⟨3, by omega, rfl⟩
      obtain ⟨c, hc, rfl⟩ := ht2
      exact nx3 c hc
  have z := key (low + r) (by omega) (by omega)
  simpa using z
end W
namespace W
open PySem L2 HTr
end W
namespace W
open PySem L2 HTr
theorem nodup_map {α β : Type} (f : α → β) (inj : ∀ {x y : α}, f x = f y → x = y) : ∀ {xs : List α}, xs.Nodup → (xs.map f).Nodup
  | [], _ => List.nodup_nil
  | x :: xs, h => by
    have h2 := List.nodup_cons.mp h
    rw [List.map_cons]
    refine List.nodup_cons.mpr ⟨fun z => ?_, nodup_map f inj h2.2⟩
    obtain ⟨y, hy, e⟩ := List.mem_map.mp z
    rw [inj e] at hy
    exact h2.1 hy
theorem inj_map {α β : Type} (f : α → β) (inj : ∀ {x y : α}, f x = f y → x = y) : ∀ {xs ys : List α}, xs.map f = ys.map f → xs = ys
  | [], [], _ => rfl
  | [], y :: ys, h => by simp at h
  | x :: xs, [], h => by simp at h
  | x :: xs, y :: ys, h => by
    simp only [List.map_cons, List.cons.injEq] at h
    rw [inj h.1, inj_map f inj h.2]
theorem srtA_uniq {as bs cs : List Arw} (h1 : SrtA as bs) (h2 : SrtA cs cs) (h : ∀ y, y ∈ as ↔ y ∈ cs) : bs = cs := by
  refine inj_map Arw.k Arw.k_inj (srt_uniq (nodup_map _ Arw.k_inj h1.nd) (nodup_map _ Arw.k_inj h2.nd) h1.ord h2.ord fun k => ?_)
  rw [List.mem_map, List.mem_map]
  exact ⟨fun ⟨y, hy, e⟩ => ⟨y, (h y).mp ((h1.mem y).mp hy), e⟩, fun ⟨y, hy, e⟩ => ⟨y, (h1.mem y).mpr ((h y).mpr hy), e⟩⟩
theorem srtM_uniq {as bs cs : List Mrk} (h1 : SrtM as bs) (h2 : SrtM cs cs) (h : ∀ y, y ∈ as ↔ y ∈ cs) : bs = cs := by
  refine inj_map Mrk.k Mrk.k_inj (srt_uniq (nodup_map _ Mrk.k_inj h1.nd) (nodup_map _ Mrk.k_inj h2.nd) h1.ord h2.ord fun k => ?_)
  rw [List.mem_map, List.mem_map]
  exact ⟨fun ⟨y, hy, e⟩ => ⟨y, (h y).mp ((h1.mem y).mp hy), e⟩, fun ⟨y, hy, e⟩ => ⟨y, (h1.mem y).mpr ((h y).mpr hy), e⟩⟩
theorem strOk_col : ∀ c ∈ cols, strOk c = true := by decide +kernel
theorem strOk_mrk : ∀ c ∈ mrks, strOk c = true := by decide +kernel
theorem same_use {d : Nat} {t : T} {G : L → List L → Prop} (h : Pl d t) (g : G (.fz (.bl true)) []) : spSame d [.fz t, .fz t] G := ⟨t, rfl, h, g⟩
theorem wb_frz (w : Wb) : frz [L.tup [L.fz (T.int w.n), fzA w.as, fzM w.ms]] = [.fz w.tup] := by
  have e1 : L.trees ((w.as.map Arw.t).map L.fz) = w.as.map Arw.t := L.trees_fz _
  have e2 : L.trees ((w.ms.map Mrk.t).map L.fz) = w.ms.map Mrk.t := L.trees_fz _
  simp only [frz, L.trees, L.tree, e1, e2, Wb.tup, List.map_cons, List.map_nil]
abbrev numsL (l : List Nat) : L := .lst ((l.map fun (i : Nat) => T.int i).map .fz)
theorem itemsF_appc {α β : Type} (f : α → T) (g : β → T) (xs : List α) (ys : List β) : itemsF (.lst (xs.map (L.fz ∘ f) ++ ys.map (L.fz ∘ g))) = some (xs.map f ++ ys.map g) := by
  rw [← List.map_map, ← List.map_map, ← List.map_append]
  exact itemsF_fz _
theorem Wb.alen {w : Wb} (h : w.ok) : w.as.length ≤ 19683 := by
  have z := nodup_len h.asr.nd (ys := cols.flatMap fun c => (List.range 81).flatMap fun a => (List.range 81).map fun b => (⟨c, a, b⟩ : Arw)) fun y hy => by
    obtain ⟨h1, h2, h3⟩ := h.aok y hy
    have := h.n81
    simp only [List.mem_flatMap, List.mem_map, List.mem_range]
    exact ⟨y.c, h1, y.a, by omega, y.b, by omega, rfl⟩
  have e : (cols.flatMap fun c => (List.range 81).flatMap fun a => (List.range 81).map fun b => (⟨c, a, b⟩ : Arw)).length = 19683 := by
    simp [List.length_flatMap, cols, Function.comp_def]
    decide +kernel
  omega
theorem Wb.mlen {w : Wb} (h : w.ok) : w.ms.length ≤ 243 := by
  have z := nodup_len h.msr.nd (ys := mrks.flatMap fun c => (List.range 81).map fun a => (⟨c, a⟩ : Mrk)) fun y hy => by
    obtain ⟨h1, h2⟩ := h.mok y hy
    have := h.n81
    simp only [List.mem_flatMap, List.mem_map, List.mem_range]
    exact ⟨y.c, h1, y.a, by omega, rfl⟩
  have e : (mrks.flatMap fun c => (List.range 81).map fun a => (⟨c, a⟩ : Mrk)).length = 243 := by
    simp [List.length_flatMap, mrks]
  omega
theorem mem_aft {w : Wb} {c : Str} {p q : Nat} : q ∈ w.aft c p ↔ ⟨c, p, q⟩ ∈ w.as := by
  simp only [Wb.aft, List.mem_map, List.mem_filter, decide_eq_true_eq]
  exact ⟨fun ⟨y, ⟨h1, h2, h3⟩, h4⟩ => by cases y; simp at h2 h3 h4; subst h2 h3 h4; exact h1, fun h => ⟨_, ⟨h, rfl, rfl⟩, rfl⟩⟩
theorem mem_bef {w : Wb} {c : Str} {p q : Nat} : q ∈ w.bef c p ↔ ⟨c, q, p⟩ ∈ w.as := by
  simp only [Wb.bef, List.mem_map, List.mem_filter, decide_eq_true_eq]
  exact ⟨fun ⟨y, ⟨h1, h2, h3⟩, h4⟩ => by cases y; simp at h2 h3 h4; subst h2 h3 h4; exact h1, fun h => ⟨_, ⟨h, rfl, rfl⟩, rfl⟩⟩
end W
namespace W
open PySem L2 HTr
def Adj (as : List Arw) (x y : Nat) : Prop := ∃ a ∈ as, (a.a = x ∧ a.b = y) ∨ (a.a = y ∧ a.b = x)
inductive Conn (as : List Arw) (x : Nat) : Nat → Prop
  | refl : Conn as x x
  | step {y z : Nat} : Conn as x y → Adj as y z → Conn as x z
theorem Adj.symm {as : List Arw} {x y : Nat} (h : Adj as x y) : Adj as y x := by
  obtain ⟨a, h1, h2⟩ := h
  exact ⟨a, h1, h2.symm⟩
theorem Conn.trans {as : List Arw} {x y z : Nat} (h : Conn as x y) (h2 : Conn as y z) : Conn as x z := by
  induction h2 with
  | refl => exact h
  | step _ a ih => exact .step ih a
theorem Conn.symm {as : List Arw} {x y : Nat} (h : Conn as x y) : Conn as y x := by
  induction h with
  | refl => exact .refl
  | step _ a ih => exact Conn.trans (.step .refl a.symm) ih
theorem Conn.mono {as bs : List Arw} (h : ∀ a ∈ as, a ∈ bs) {x y : Nat} (c : Conn as x y) : Conn bs x y := by
  induction c with
  | refl => exact .refl
  | step _ a ih =>
    obtain ⟨b, h1, h2⟩ := a
    exact .step ih ⟨b, h b h1, h2⟩
def Wb.Tree (w : Wb) : Prop := w.n ≠ 0 ∧ w.as.length + 1 = w.n ∧ ∀ x, x < w.n → Conn w.as 0 x
end W
namespace W
open PySem L2 HTr
structure Bfs (w : Wb) (line : List Nat) (at_ : Nat) : Prop where
  nd : line.Nodup
  z : 0 ∈ line
  lt : ∀ x ∈ line, x < w.n
  cn : ∀ x ∈ line, Conn w.as 0 x
  le : at_ ≤ line.length
  cl : ∀ x ∈ line.take at_, ∀ y, Adj w.as x y → y ∈ line
theorem Bfs.len {w : Wb} {line : List Nat} {a : Nat} (h : Bfs w line a) : line.length ≤ w.n := by
  have := nodup_len h.nd (ys := List.range w.n) fun x hx => List.mem_range.mpr (h.lt x hx)
  simpa using this
theorem Adj.lt {w : Wb} (h : w.ok) {x y : Nat} (a : Adj w.as x y) : x < w.n ∧ y < w.n := by
  obtain ⟨b, hb, e⟩ := a
  have z := h.aok b hb
  rcases e with ⟨rfl, rfl⟩ | ⟨rfl, rfl⟩
  · exact ⟨z.2.1, z.2.2⟩
  · exact ⟨z.2.2, z.2.1⟩
theorem webT_obj {C : Nat} {w : Wb} {t : T} (h : WebT C w t) : ∃ ts, t = .obj C webNs ts := by
  obtain ⟨k1, v1, k2, v2, et, _⟩ := h
  exact ⟨_, et⟩
end W
namespace W
open PySem L2 HTr
def mvA (s : List Nat) (y : Arw) : Arw := ⟨y.c, s.getD y.a 0, s.getD y.b 0⟩
def mvM (s : List Nat) (y : Mrk) : Mrk := ⟨y.c, s.getD y.a 0⟩
theorem getD_mem {s : List Nat} {i : Nat} (h : i < s.length) : s.getD i 0 ∈ s := by
  rw [List.getD_eq_getElem?_getD, List.getElem?_eq_getElem h]; exact List.getElem_mem h
structure Renum (s : List Nat) (w w' : Wb) : Prop where
  pm : s.Perm (List.range w.n)
  n : w'.n = w.n
  sA : SrtA (w.as.map (mvA s)) w'.as
  sM : SrtM (w.ms.map (mvM s)) w'.ms
  ok : w'.ok
end W
namespace W
open PySem L2 HTr
theorem nodup_map_on {α β : Type} {f : α → β} : ∀ {xs : List α}, (∀ x ∈ xs, ∀ y ∈ xs, f x = f y → x = y) → xs.Nodup → (xs.map f).Nodup
  | [], _, _ => List.nodup_nil
  | x :: xs, inj, h => by
    have h2 := List.nodup_cons.mp h
    rw [List.map_cons]
    refine List.nodup_cons.mpr ⟨fun z => ?_, nodup_map_on (fun a ha b hb => inj a (by simp [ha]) b (by simp [hb])) h2.2⟩
    obtain ⟨y, hy, e⟩ := List.mem_map.mp z
    have := inj y (by simp [hy]) x (by simp) e
    rw [this] at hy
    exact h2.1 hy
theorem srtA_len {as as' : List Arw} (h : SrtA as as') (nd : as.Nodup) : as'.length = as.length :=
  Nat.le_antisymm (nodup_len h.nd fun y hy => (h.mem y).mp hy) (nodup_len nd fun y hy => (h.mem y).mpr hy)
theorem Renum.inj {s : List Nat} {w w' : Wb} (h : Renum s w w') {x y : Nat} (hx : x < w.n) (hy : y < w.n) (e : s.getD x 0 = s.getD y 0) : x = y := by
  have sl : s.length = w.n := by rw [h.pm.length_eq]; simp
  have nd : s.Nodup := h.pm.nodup_iff.mpr List.nodup_range
  rw [List.getD_eq_getElem?_getD, List.getD_eq_getElem?_getD, List.getElem?_eq_getElem (by omega), List.getElem?_eq_getElem (by omega)] at e
  exact (List.getElem_inj nd).mp e
theorem Renum.len {s : List Nat} {w w' : Wb} (h : Renum s w w') (ok : w.ok) : w'.as.length = w.as.length := by
  have nd : (w.as.map (mvA s)).Nodup := nodup_map_on (fun a ha b hb e => by
    obtain ⟨_, a1, a2⟩ := ok.aok a ha
    obtain ⟨_, b1, b2⟩ := ok.aok b hb
    cases a; cases b
    simp [mvA] at e
    simp at a1 a2 b1 b2
    obtain ⟨e1, e2, e3⟩ := e
    have := h.inj a1 b1 (by simpa [List.getD_eq_getElem?_getD] using e2)
    have := h.inj a2 b2 (by simpa [List.getD_eq_getElem?_getD] using e3)
    simp_all) ok.asr.nd
  rw [srtA_len h.sA nd, List.length_map]
theorem Renum.surj {s : List Nat} {w w' : Wb} (h : Renum s w w') {y : Nat} (hy : y < w.n) : ∃ x, x < w.n ∧ s.getD x 0 = y := by
  have sl : s.length = w.n := by rw [h.pm.length_eq]; simp
  obtain ⟨i, hi, e⟩ := List.getElem_of_mem (h.pm.mem_iff.mpr (List.mem_range.mpr hy))
  exact ⟨i, by omega, by rw [List.getD_eq_getElem?_getD, List.getElem?_eq_getElem hi]; exact e⟩
theorem Renum.conn {s : List Nat} {w w' : Wb} (h : Renum s w w') {x y : Nat} (c : Conn w.as x y) : Conn w'.as (s.getD x 0) (s.getD y 0) := by
  induction c with
  | refl => exact .refl
  | step _ a ih =>
    obtain ⟨b, hb, e⟩ := a
    refine .step ih ⟨mvA s b, (h.sA.mem _).mpr (List.mem_map.mpr ⟨b, hb, rfl⟩), ?_⟩
    rcases e with ⟨rfl, rfl⟩ | ⟨rfl, rfl⟩
    · exact .inl ⟨rfl, rfl⟩
    · exact .inr ⟨rfl, rfl⟩
theorem Renum.tree {s : List Nat} {w w' : Wb} (h : Renum s w w') (ok : w.ok) (t : w.Tree) : w'.Tree := by
  obtain ⟨t1, t2, t3⟩ := t
  have pos : 0 < w.n := Nat.pos_of_ne_zero t1
  have key : ∀ y, y < w.n → Conn w'.as (s.getD 0 0) y := fun y hy => by
    obtain ⟨x, hx, e⟩ := h.surj hy
    rw [← e]
    exact h.conn (t3 x hx)
  refine ⟨by rw [h.n]; exact t1, by rw [h.len ok, h.n]; exact t2, fun x hx => ?_⟩
  rw [h.n] at hx
  exact (key 0 pos).symm.trans (key x hx)
end W
namespace W
open PySem L2 HTr
structure Grp (n : Nat) (pre : List Arw) (g : List Nat) : Prop where
  len : g.length = n
  iff : ∀ x y, x < n → y < n → (g.getD x 0 = g.getD y 0 ↔ Conn pre x y)
def merge (g : List Nat) (a : Arw) : List Nat := g.map fun l => if l = g.getD a.b 0 then g.getD a.a 0 else l
theorem merge_get {g : List Nat} {a : Arw} {x : Nat} (hx : x < g.length) : (merge g a).getD x 0 = if g.getD x 0 = g.getD a.b 0 then g.getD a.a 0 else g.getD x 0 := by
  unfold merge
  rw [List.getD_eq_getElem?_getD, List.getElem?_map, List.getElem?_eq_getElem hx, List.getD_eq_getElem?_getD (i := x), List.getElem?_eq_getElem hx]
  rfl
theorem Grp.step {n : Nat} {pre : List Arw} {g : List Nat} {a : Arw} (h : Grp n pre g) (hp : ∀ y ∈ pre, y.ok n) (ha : a.ok n) : Grp n (pre ++ [a]) (merge g a) := by
  obtain ⟨_, a1, a2⟩ := ha
  refine ⟨by unfold merge; rw [List.length_map]; exact h.len, fun x y hx hy => ?_⟩
  have hl := h.len
  rw [merge_get (by omega), merge_get (by omega)]
  have up : ∀ {u v : Nat}, Conn pre u v → Conn (pre ++ [a]) u v := fun c => c.mono fun b hb => List.mem_append_left _ hb
  have adj : Conn (pre ++ [a]) a.a a.b := .step .refl ⟨a, by simp, .inl ⟨rfl, rfl⟩⟩
  constructor
  · intro e
    by_cases e1 : g.getD x 0 = g.getD a.b 0
    · rw [if_pos e1] at e
      have c1 := (h.iff x a.b hx a2).mp e1
      by_cases e2 : g.getD y 0 = g.getD a.b 0
      · have c2 := (h.iff y a.b hy a2).mp e2
        exact up (c1.trans c2.symm)
      · rw [if_neg e2] at e
        have c2 := (h.iff a.a y a1 hy).mp e
        exact (up c1).trans (adj.symm.trans (up c2))
    · rw [if_neg e1] at e
      by_cases e2 : g.getD y 0 = g.getD a.b 0
      · rw [if_pos e2] at e
        have c1 := (h.iff x a.a hx a1).mp e
        have c2 := (h.iff y a.b hy a2).mp e2
        exact (up c1).trans (adj.trans (up c2.symm))
      · rw [if_neg e2] at e
        exact up ((h.iff x y hx hy).mp e)
  · intro c
    have okk : ∀ b ∈ pre ++ [a], b.a < n ∧ b.b < n := fun b hb => by
      rcases List.mem_append.mp hb with h | h
      · exact (hp b h).2
      · simp at h; subst h; exact ⟨a1, a2⟩
    clear hy
    induction c with
    | refl => rfl
    | step c1 ad ih =>
      rename_i u v
      rw [ih]
      obtain ⟨b, hb, e⟩ := ad
      have hu : u < n := by rcases e with ⟨e1, e2⟩ | ⟨e1, e2⟩ <;> (have := okk b hb; omega)
      have hv : v < n := by rcases e with ⟨e1, e2⟩ | ⟨e1, e2⟩ <;> (have := okk b hb; omega)
      rcases List.mem_append.mp hb with h2 | h2
      · have z : g.getD u 0 = g.getD v 0 := (h.iff u v hu hv).mpr (.step .refl ⟨b, h2, e⟩)
        rw [z]
      · simp at h2
        subst h2
        rcases e with ⟨e1, e2⟩ | ⟨e1, e2⟩
        · rw [← e1, ← e2, if_pos rfl]
          by_cases q : g.getD b.a 0 = g.getD b.b 0 <;> simp [q]
        · rw [← e1, ← e2, if_pos rfl]
          by_cases q : g.getD b.a 0 = g.getD b.b 0 <;> simp [q]
end W
namespace W
open PySem L2 HTr
end W
namespace W
open PySem L2 HTr
def Wb.mkd (w : Wb) (m : Str) : List Nat := (w.ms.filter fun y => decide (y.c = m)).map (·.a)
theorem mem_mkd {w : Wb} {m : Str} {p : Nat} : p ∈ w.mkd m ↔ ⟨m, p⟩ ∈ w.ms := by
  simp only [Wb.mkd, List.mem_map, List.mem_filter, decide_eq_true_eq]
  exact ⟨fun ⟨y, ⟨h1, h2⟩, h4⟩ => by cases y; simp at h2 h4; subst h2 h4; exact h1, fun h => ⟨_, ⟨h, rfl⟩, rfl⟩⟩
end W
namespace W
open PySem L2 HTr
structure Fit (w1 w2 : Wb) (ap : Bool) (im : List Nat) : Prop where
  apart : ap = true → im.getD (im.length - 1) 0 ∉ im.take (im.length - 1)
  marks : ∀ y ∈ w1.ms, y.a = im.length - 1 → (⟨y.c, im.getD (im.length - 1) 0⟩ : Mrk) ∈ w2.ms
  on : ∀ c ∈ cols, ∀ to, to ≤ im.length - 1 → (⟨c, im.length - 1, to⟩ : Arw) ∈ w1.as → (⟨c, im.getD (im.length - 1) 0, im.getD to 0⟩ : Arw) ∈ w2.as
  bk : ∀ c ∈ cols, ∀ of, of ≤ im.length - 1 → (⟨c, of, im.length - 1⟩ : Arw) ∈ w1.as → (⟨c, im.getD of 0, im.getD (im.length - 1) 0⟩ : Arw) ∈ w2.as
end W
namespace W
open PySem L2 HTr
theorem boolsT_map {α : Type} (g : α → Bool) : ∀ xs : List α, boolsT (xs.map fun x => T.bl (g x)) = some (xs.map g)
  | [] => rfl
  | x :: xs => by simp [boolsT, boolsT_map g xs]
theorem cut_toN {α : Type} (xs : List α) (p : Nat) : cut xs none (some (p : Int)) = xs.take p := by
  unfold cut
  rw [HT.sIx_none, List.drop_zero, Nat.sub_zero, HT.sIx_nat, List.take_eq_take_iff]
  omega
theorem fBools_map {α : Type} (g : α → Bool) (xs : List α) {G : L → Prop} (h : G (.fz (.bl (xs.all g)))) : fBools (fun bs => bs.all id) [.lst ([] ++ xs.map fun x => L.fz (.bl (g x)))] G := by
  unfold fBools
  have e : (L.lst ([] ++ xs.map fun x => L.fz (.bl (g x)))).tree = .lst (xs.map fun x => .bl (g x)) := by
    show T.lst (L.trees _) = _
    rw [List.nil_append, show (xs.map fun x => L.fz (.bl (g x))) = (xs.map fun x => T.bl (g x)).map L.fz by rw [List.map_map]; rfl, L.trees_fz]
  simp only [e, boolsT_map]
  simpa [List.all_map] using h
end W
namespace W
open PySem L2 HTr
def lexLe : List Nat → List Nat → Prop
  | [], _ => True
  | _ :: _, [] => False
  | x :: xs, y :: ys => x < y ∨ (x = y ∧ lexLe xs ys)
def abv : List Nat → List Nat → Prop
  | x :: xs, y :: ys => x < y ∨ (x = y ∧ abv xs ys)
  | _, _ => False
theorem lexLe_iff : ∀ {a m : List Nat}, lexLe a m ↔ (∃ r, m = a ++ r) ∨ abv a m
  | [], m => by simp [lexLe]
  | x :: xs, [] => by simp [lexLe, abv]
  | x :: xs, y :: ys => by
    simp only [lexLe, abv, lexLe_iff (a := xs) (m := ys)]
    constructor
    · rintro (h | ⟨rfl, ⟨r, rfl⟩ | h⟩)
      · exact .inr (.inl h)
      · exact .inl ⟨r, rfl⟩
      · exact .inr (.inr ⟨rfl, h⟩)
    · rintro (⟨r, e⟩ | h | ⟨rfl, h⟩)
      · simp at e
        exact .inr ⟨e.1.symm, .inl ⟨r, e.2⟩⟩
      · exact .inl h
      · exact .inr ⟨rfl, .inr h⟩
theorem abv_lexLe {a b c : List Nat} : abv a b → lexLe b c → abv a c := by
  induction a generalizing b c with
  | nil => intro h; simp [abv] at h
  | cons x xs ih =>
    cases b with
    | nil => intro h; simp [abv] at h
    | cons y ys =>
      cases c with
      | nil => intro _ h; exact h.elim
      | cons z zs =>
        rintro (h1 | ⟨rfl, h1⟩) (h2 | ⟨rfl, h2⟩)
        · exact .inl (by omega)
        · exact .inl h1
        · exact .inl h2
        · exact .inr ⟨rfl, ih h1 h2⟩
def szT (N : Nat) : Nat → Nat
  | 0 => 1
  | h + 1 => 1 + N * szT N h
def rkT (N : Nat) : Nat → List Nat → Nat
  | _, [] => 0
  | 0, _ :: _ => 0
  | h + 1, v :: xs => 1 + v * szT N h + rkT N h xs
def Fits (w1 w2 : Wb) (ap : Bool) (im : List Nat) : Prop := ∀ k, k < im.length → Fit w1 w2 ap (im.take (k + 1))
structure Mp (w1 w2 : Wb) (ap : Bool) (im : List Nat) : Prop where
  len : im.length = w1.n
  lt : ∀ x ∈ im, x < w2.n
  fits : Fits w1 w2 ap im
theorem Fits.pre {w1 w2 : Wb} {ap : Bool} {a r : List Nat} (h : Fits w1 w2 ap (a ++ r)) : Fits w1 w2 ap a := by
  intro k hk
  have := h k (by simp; omega)
  rwa [List.take_append_of_le_length (by omega)] at this
theorem Fits.nil {w1 w2 : Wb} {ap : Bool} : Fits w1 w2 ap [] := fun k hk => by simp at hk
end W
namespace W
open PySem L2 HTr
abbrev natsT (l : List Nat) : T := .lst (l.map fun (i : Nat) => T.int i)
end W
namespace W
open PySem L2 HTr
theorem abv_irrefl : ∀ a : List Nat, ¬ abv a a
  | [], h => by simp [abv] at h
  | x :: xs, h => by
    rcases h with h | ⟨_, h⟩
    · omega
    · exact abv_irrefl xs h
end W
namespace W
open PySem L2 HTr
end W
namespace W
open PySem L2 HTr
def Arw.d (x : Arw) : PyData := .tuple [.str x.c, .int x.a, .int x.b]
def Mrk.d (x : Mrk) : PyData := .tuple [.str x.c, .int x.a]
theorem Arw.eqv (x y : Arw) : PyData.eqv x.d y.d = decide (x = y) := by
  cases x; cases y
  rw [Bool.eq_iff_iff]
  simp [Arw.d, PyData.eqv, PyData.eqvAll]
  intro _
  omega
theorem Mrk.eqv (x y : Mrk) : PyData.eqv x.d y.d = decide (x = y) := by
  cases x; cases y
  rw [Bool.eq_iff_iff]
  simp [Mrk.d, PyData.eqv, PyData.eqvAll]
  intro _
  omega
structure MapN (w1 w2 : Wb) (im : List Nat) : Prop where
  len : im.length = w1.n
  lt : ∀ x ∈ im, x < w2.n
  on : ∀ x ∈ w1.as, (⟨x.c, im.getD x.a 0, im.getD x.b 0⟩ : Arw) ∈ w2.as
  mks : ∀ y ∈ w1.ms, (⟨y.c, im.getD y.a 0⟩ : Mrk) ∈ w2.ms
end W
namespace W
open PySem L2 HTr
end W
namespace W
open PySem L2 HTr
end W
namespace W
open PySem L2 HTr
theorem Mp.or {w1 w2 : Wb} {ap : Bool} {a b : List Nat} (ha : Mp w1 w2 ap a) (hb : Mp w1 w2 ap b) (h : lexLe a b) : a = b ∨ abv a b := by
  rcases lexLe_iff.mp h with ⟨r, e⟩ | h
  · have := ha.len
    have h2 := hb.len
    rw [e] at h2
    simp at h2
    have : r = [] := List.length_eq_zero_iff.mp (by omega)
    subst this
    exact .inl (by simpa using e.symm)
  · exact .inr h
def Srt (ms : List (List Nat)) : Prop := ms.Pairwise fun a b => abv a b
def EnI (M : List Nat → Prop) (ms : List (List Nat)) : Option (List Nat) → Prop
  | none => Srt ms ∧ ∀ m, m ∈ ms ↔ M m
  | some h => Srt (ms ++ [h]) ∧ (∀ m ∈ ms ++ [h], M m) ∧ ∀ m, M m → m ∈ ms ∨ lexLe h m
theorem EnI.start {w1 w2 : Wb} {ap : Bool} {r : List Nat} (h : Mp w1 w2 ap r) (g : ∀ m, Mp w1 w2 ap m → lexLe r m) : EnI (Mp w1 w2 ap) [] (some r) :=
  ⟨List.pairwise_singleton _ _, by simpa using h, fun m hm => .inr (g m hm)⟩
theorem abv_trans {a b c : List Nat} (h : abv a b) (g : abv b c) : abv a c := abv_lexLe h (lexLe_iff.mpr (.inr g))
theorem EnI.next {w1 w2 : Wb} {ap : Bool} {ms : List (List Nat)} {h r : List Nat} (e : EnI (Mp w1 w2 ap) ms (some h)) (hr : Mp w1 w2 ap r) (ha : abv h r) (g : ∀ m, Mp w1 w2 ap m → abv h m → lexLe r m) : EnI (Mp w1 w2 ap) (ms ++ [h]) (some r) := by
  refine ⟨List.pairwise_append.mpr ⟨e.1, List.pairwise_singleton _ _, fun a ha2 b hb => ?_⟩, fun m hm => ?_, fun m hm => ?_⟩
  · simp at hb
    subst hb
    rcases List.mem_append.mp ha2 with z | z
    · exact abv_trans ((List.pairwise_append.mp e.1).2.2 a z h (by simp)) ha
    · simp at z; subst z; exact ha
  · rcases List.mem_append.mp hm with z | z
    · exact e.2.1 m z
    · simp at z; subst z; exact hr
  · rcases e.2.2 m hm with z | z
    · exact .inl (by simp [z])
    · rcases Mp.or (e.2.1 h (by simp)) hm z with rfl | z
      · exact .inl (by simp)
      · exact .inr (g m hm z)
end W
namespace W
open PySem L2 HTr
def msr (N n : Nat) : Option (List Nat) → Nat
  | none => 0
  | some h => 1 + (szT N n - rkT N n h)
end W
namespace W
open PySem L2 HTr
end W
namespace W
open PySem L2 HTr
structure PMp (w1 w2 : Wb) (p : Nat) (im : List Nat) : Prop where
  len : im.length = p
  lt : ∀ x ∈ im, x < w2.n
  fits : Fits w1 w2 false im
theorem PMp.mp {w1 w2 : Wb} {im : List Nat} : PMp w1 w2 w1.n im ↔ Mp w1 w2 false im := ⟨fun h => ⟨h.len, h.lt, h.fits⟩, fun h => ⟨h.len, h.lt, h.fits⟩⟩
end W
namespace W
open PySem L2 HTr
end W
namespace W
open PySem L2 HTr
end W
namespace W
open PySem L2 HTr
def Wb.has (w : Wb) (p : Int) : Prop := 0 ≤ p ∧ p < w.n
instance (w : Wb) (p : Int) : Decidable (w.has p) := by unfold Wb.has; exact inferInstance
end W
namespace W
open PySem L2 HTr
end W
namespace W
open PySem L2 HTr
end W
namespace W
open PySem L2 HTr
theorem take_getD (im : List Nat) (k i : Nat) (h : i ≤ k) : (im.take (k + 1)).getD i 0 = im.getD i 0 := by
  simp only [List.getD_eq_getElem?_getD]
  rw [List.getElem?_take_of_lt (by omega)]
def ledN (f g : List Nat) : List Nat := f.map fun x => g.getD x 0
theorem ledN_getD {f g : List Nat} {i : Nat} (h : i < f.length) : (ledN f g).getD i 0 = g.getD (f.getD i 0) 0 := by
  simp [ledN, List.getD_eq_getElem?_getD, h]
theorem MapN.led {w1 w2 w3 : Wb} {f g : List Nat} (ok1 : w1.ok) (h1 : MapN w1 w2 f) (h2 : MapN w2 w3 g) : MapN w1 w3 (ledN f g) := by
  have l1 := h1.len
  refine ⟨by simp [ledN, l1], fun x hx => ?_, fun x hx => ?_, fun y hy => ?_⟩
  · obtain ⟨y, hy, rfl⟩ := List.mem_map.mp hx
    have hl : y < g.length := by rw [h2.len]; exact h1.lt y hy
    rw [List.getD_eq_getElem?_getD, List.getElem?_eq_getElem hl]
    exact h2.lt _ (List.getElem_mem hl)
  · obtain ⟨_, a2, a3⟩ := ok1.aok x hx
    rw [ledN_getD (by omega), ledN_getD (by omega)]
    exact h2.on _ (h1.on x hx)
  · obtain ⟨_, a2⟩ := ok1.mok y hy
    rw [ledN_getD (by omega)]
    exact h2.mks _ (h1.mks y hy)
end W
namespace W
open PySem L2 HTr
end W
namespace W
open PySem L2 HTr
def Wb.tA (w : Wb) (p : Int) : List Arw := w.as.filter fun y => decide (p = y.a ∨ p = y.b)
def Wb.tM (w : Wb) (p : Int) : List Mrk := w.ms.filter fun y => decide ((y.a : Int) = p)
end W
namespace W
open PySem L2 HTr
end W
namespace W
open PySem L2 HTr
end W
namespace W
open PySem L2 HTr
structure RA where
  c : Str
  a : Int
  b : Int
def RA.t (r : RA) : T := .tup [.str r.c, .int r.a, .int r.b]
structure RM where
  c : Str
  a : Int
def RM.t (r : RM) : T := .tup [.str r.c, .int r.a]
def RA.good (n : Int) (r : RA) : Prop := r.c ∈ cols ∧ (0 ≤ r.a ∧ r.a < n) ∧ 0 ≤ r.b ∧ r.b < n
def RM.good (n : Int) (r : RM) : Prop := r.c ∈ mrks ∧ 0 ≤ r.a ∧ r.a < n
instance {n : Int} {r : RA} : Decidable (r.good n) := by unfold RA.good; exact inferInstance
instance {n : Int} {r : RM} : Decidable (r.good n) := by unfold RM.good; exact inferInstance
end W
namespace W
open PySem L2 HTr
structure Hid (p : Prop) : Prop where
  h : p
end W
namespace W
open PySem L2 HTr
end W
namespace W
open PySem L2 HTr
def shA (n : Nat) (y : Arw) : Arw := ⟨y.c, n + y.a, n + y.b⟩
def shM (n : Nat) (y : Mrk) : Mrk := ⟨y.c, n + y.a⟩
def besA (w1 w2 : Wb) : List Arw := w1.as ++ w2.as.map (shA w1.n)
def besM (w1 w2 : Wb) : List Mrk := w1.ms ++ w2.ms.map (shM w1.n)
structure Beside (w1 w2 w : Wb) : Prop where
  n : w.n = w1.n + w2.n
  sA : SrtA (besA w1 w2) w.as
  sM : SrtM (besM w1 w2) w.ms
  ok : w.ok
end W
namespace W
open PySem L2 HTr
def tA (n : Nat) (y z : Arw) : Arw := ⟨y.c, y.a * n + z.a, y.b * n + z.b⟩
def tM (n : Nat) (y z : Mrk) : Mrk := ⟨y.c, y.a * n + z.a⟩
def timA (w1 w2 : Wb) : List Arw := w1.as.flatMap fun y => (w2.as.filter fun z => decide (z.c = y.c)).map (tA w2.n y)
def timM (w1 w2 : Wb) : List Mrk := w1.ms.flatMap fun y => (w2.ms.filter fun z => decide (z.c = y.c)).map (tM w2.n y)
structure Times (w1 w2 w : Wb) : Prop where
  n : w.n = w1.n * w2.n
  sA : SrtA (timA w1 w2) w.as
  sM : SrtM (timM w1 w2) w.ms
  ok : w.ok
theorem lt_mul {a b n m : Nat} (ha : a < n) (hb : b < m) : a * m + b < n * m := by
  have : (a + 1) * m ≤ n * m := Nat.mul_le_mul_right _ ha
  rw [Nat.add_mul, Nat.one_mul] at this
  omega
end W
namespace W
open PySem L2 HTr
end W
namespace W
open PySem L2 HTr
end W
namespace W
open PySem L2 HTr
end W
namespace W
open PySem L2 HTr
theorem range_pre {n x : Nat} {pre post : List Nat} (e : pre ++ x :: post = List.range n) : x = pre.length ∧ x < n := by
  have h1 : (List.range n)[pre.length]? = some x := by rw [← e]; simp
  have h2 := List.getElem?_eq_some_iff.mp h1
  obtain ⟨hl, hx⟩ := h2
  rw [List.getElem_range] at hx
  rw [List.length_range] at hl
  omega
theorem forR {g : MG} {b : MS} {e : ET} {n : Nat} {lo : Int} {S : HTr.S} (I : Nat → HTr.S → Prop) (i : I 0 S)
    (h : ∀ (x : Nat) S, x < n → I x S → ∀ k : HTr.S → Prop, (∀ S', I (x + 1) S' → k S') → g (T.int (lo + (x : Int))) S fun S1 => b { e with nx := k, ct := k, bk := e.nx } S1)
    (q : ∀ S, I n S → e.nx S) : forL g b (rangeT lo n) e S := by
  show forL g b ((List.range n).map fun (i : Nat) => T.int (lo + (i : Int))) e S
  refine forL_all (I := fun pre S => I pre.length S) i (fun pre x post S e hi k hk => ?_) (fun S hi => q S (by simpa using hi))
  obtain ⟨rfl, hx⟩ := range_pre e
  exact h _ S hx hi k fun S' z => hk S' (by simpa using z)
abbrev Tie := Arw ⊕ Mrk
def tieD : Tie → PyData
  | .inl y => y.d
  | .inr y => y.d
def Wb.ties (w : Wb) (p : Int) : List Tie := (w.tA p).map .inl ++ (w.tM p).map .inr
def Wb.rows (w : Wb) : Nat → List (List Tie)
  | 0 => [[]]
  | k + 1 => (w.rows k).flatMap fun r => (w.ties (k : Nat)).map fun t => r ++ [t]
theorem rows_row {w : Wb} : ∀ {k : Nat} {r : List Tie}, r ∈ w.rows k → r.length = k ∧ ∀ j (t : Tie), r[j]? = some t → t ∈ w.ties (j : Nat)
  | 0, r, h => by
    have : r = [] := by simpa [Wb.rows] using h
    subst this
    exact ⟨rfl, fun j t e => by simp at e⟩
  | k + 1, r, h => by
    obtain ⟨r0, h0, hr⟩ := List.mem_flatMap.mp h
    obtain ⟨t, ht, rfl⟩ := List.mem_map.mp hr
    obtain ⟨h1, h2⟩ := rows_row h0
    refine ⟨by simp [h1], fun j u e => ?_⟩
    by_cases hj : j < r0.length
    · rw [List.getElem?_append_left hj] at e
      exact h2 j u e
    · rw [List.getElem?_append_right (by omega)] at e
      have : j = k := by
        have := (List.getElem?_eq_some_iff.mp e).1
        simp at this
        omega
      subst this
      simp [h1] at e
      subst e
      exact ht
end W
namespace W
open PySem L2 HTr
end W
namespace W
open PySem L2 HTr
end W
namespace W
open PySem L2 HTr PyProof.Rows PyProof.Rows.G
open PySem.W (rowLt dataLt dataLt_cons alike alikeAll keyToksAll)
theorem dLt_irr (x : PyData) : dataLt x x = false := lex_irrefl _
theorem rLt_irr (x : List PyData) : rowLt x x = false := lex_irrefl _
theorem rowLt_app : ∀ {a b : List PyData} (u v : List PyData), a.length = b.length → alikeAll a b = true → rowLt a b = true → rowLt (a ++ u) (b ++ v) = true
  | [], [], u, v, _, _, h => by
    rw [rLt_irr] at h; cases h
  | x :: a, y :: b, u, v, hl, ha, h => by
    simp [alikeAll] at ha
    unfold rowLt at h ⊢
    rw [List.cons_append, List.cons_append, dataLt_cons ha.1]
    rw [dataLt_cons ha.1] at h
    by_cases e : PyData.eqv x y = true
    · rw [if_pos e] at h ⊢
      exact rowLt_app u v (by simpa using hl) ha.2 h
    · rw [if_neg e] at h ⊢
      exact h
  | [], _ :: _, _, _, hl, _, _ => by simp at hl
  | _ :: _, [], _, _, hl, _, _ => by simp at hl
theorem rowLt_pre : ∀ {a : List PyData} (u v : List PyData), (∀ x ∈ a, alike x x = true ∧ PyData.eqv x x = true) → rowLt (a ++ u) (a ++ v) = rowLt u v
  | [], _, _, _ => rfl
  | x :: a, u, v, h => by
    obtain ⟨h1, h2⟩ := h x (by simp)
    have ih := rowLt_pre (a := a) u v fun y hy => h y (by simp [hy])
    unfold rowLt at ih ⊢
    rw [List.cons_append, List.cons_append, dataLt_cons h1, if_pos h2]
    exact ih
theorem tie_alike (x y : Tie) : alike (tieD x) (tieD y) = true := by
  cases x <;> cases y <;> simp [tieD, Arw.d, Mrk.d, alike, alikeAll]
theorem tie_eqv (x y : Tie) : PyData.eqv (tieD x) (tieD y) = true ↔ x = y := by
  cases x <;> cases y
  · rename_i x y
    show PyData.eqv x.d y.d = true ↔ _
    rw [Arw.eqv]; simp
  · simp [tieD, Arw.d, Mrk.d, PyData.eqv, PyData.eqvAll]
  · simp [tieD, Arw.d, Mrk.d, PyData.eqv, PyData.eqvAll]
  · rename_i x y
    show PyData.eqv x.d y.d = true ↔ _
    rw [Mrk.eqv]; simp
theorem rows_alike : ∀ (a b : List Tie), alikeAll (a.map tieD) (b.map tieD) = true
  | [], _ => by simp [alikeAll]
  | _ :: _, [] => by simp [alikeAll]
  | x :: a, y :: b => by
    have := rows_alike a b
    simp [alikeAll, tie_alike, this]
abbrev tieLt (x y : Tie) : Bool := dataLt (tieD x) (tieD y)
abbrev rLt (a b : List Tie) : Bool := rowLt (a.map tieD) (b.map tieD)
theorem rLt_one (x y : Tie) : rLt [x] [y] = tieLt x y := by
  unfold rLt rowLt
  simp only [List.map_cons, List.map_nil]
  rw [dataLt_cons (tie_alike x y)]
  by_cases h : PyData.eqv (tieD x) (tieD y) = true
  · rw [if_pos h]
    have := (tie_eqv x y).mp h
    subst this
    rw [show lexLt itemOrd (keyToksAll []) (keyToksAll []) = false from lex_irrefl _, show tieLt x x = false from dLt_irr _]
  · rw [if_neg h]
theorem toks_lt : ∀ {a b : List Key}, a.length = b.length → rowLt (a.map kd) (b.map kd) = clt (a.map ckey) (b.map ckey)
  | [], [], _ => rLt_irr _
  | x :: a, y :: b, hl => by
    have ih := toks_lt (a := a) (b := b) (by simpa using hl)
    have tk : ∀ (k : Key) (r : List PyData), keyToksAll (kd k :: r) = .inl 1 :: ckey k :: keyToksAll r := fun k r => by
      cases k <;> simp [keyToksAll, PySem.W.keyToks, kd, ckey]
    unfold rowLt clt at ih ⊢
    rw [List.map_cons, List.map_cons, List.map_cons, List.map_cons, tk, tk, lex_self]
    by_cases e : ckey x = ckey y
    · rw [e, lex_self, lex_self, ih]
    · rw [lex_diff e, lex_diff e]
  | [], _ :: _, hl => by simp at hl
  | _ :: _, [], hl => by simp at hl
theorem arw_lt (x y : Arw) : tieLt (.inl x) (.inl y) = clt (x.k.map ckey) (y.k.map ckey) := toks_lt (a := x.k) (b := y.k) rfl
theorem mrk_lt (x y : Mrk) : tieLt (.inr x) (.inr y) = clt (x.k.map ckey) (y.k.map ckey) := toks_lt (a := x.k) (b := y.k) rfl
theorem col_mrk : ∀ c ∈ cols, ∀ m ∈ mrks, ckey (.inr c) ≠ ckey (.inr m) ∧ itemOrd.blt (ckey (.inr c)) (ckey (.inr m)) = true := by decide +kernel
theorem arw_mrk {n m : Nat} {x : Arw} {y : Mrk} (h1 : x.ok n) (h2 : y.ok m) : tieLt (.inl x) (.inr y) = true := by
  obtain ⟨h3, h4⟩ := col_mrk x.c h1.1 y.c h2.1
  unfold tieLt dataLt
  have e1 : PySem.W.keyToks (tieD (.inl x)) = .inl 1 :: ckey (.inr x.c) :: keyToksAll [.int x.a, .int x.b] := by simp [tieD, Arw.d, PySem.W.keyToks, keyToksAll, ckey]
  have e2 : PySem.W.keyToks (tieD (.inr y)) = .inl 1 :: ckey (.inr y.c) :: keyToksAll [.int y.a] := by simp [tieD, Mrk.d, PySem.W.keyToks, keyToksAll, ckey]
  rw [e1, e2, lex_self, lex_diff h3]
  exact h4
theorem kOrd_lt {α : Type} {k : α → List Key} (inj : ∀ x y, k x = k y → x = y) {xs : List α} (nd : xs.Nodup) (h : kOrd (xs.map k)) : xs.Pairwise fun x y => clt ((k x).map ckey) ((k y).map ckey) = true := by
  unfold kOrd at h
  rw [List.pairwise_map] at h
  refine (nd.and h).imp fun {x y} ⟨h1, h2⟩ => ?_
  cases e : clt ((k x).map ckey) ((k y).map ckey) with
  | true => rfl
  | false => exact (h1 (inj _ _ (kle_anti (a := k x) (b := k y) h2 e))).elim
theorem ties_rise {w : Wb} (ok : w.ok) (p : Int) : (w.ties p).Pairwise fun x y => tieLt x y = true := by
  unfold Wb.ties
  rw [List.pairwise_append, List.pairwise_map, List.pairwise_map]
  refine ⟨?_, ?_, fun x hx y hy => ?_⟩
  · refine List.Pairwise.filter _ ((kOrd_lt (fun _ _ => Arw.k_inj) ok.asr.nd ok.asr.ord).imp fun {x y} h => ?_)
    rw [arw_lt]; exact h
  · refine List.Pairwise.filter _ ((kOrd_lt (fun _ _ => Mrk.k_inj) ok.msr.nd ok.msr.ord).imp fun {x y} h => ?_)
    rw [mrk_lt]; exact h
  · obtain ⟨a, ha, rfl⟩ := List.mem_map.mp hx
    obtain ⟨b, hb, rfl⟩ := List.mem_map.mp hy
    exact arw_mrk (ok.aok a (List.mem_filter.mp ha).1) (ok.mok b (List.mem_filter.mp hb).1)
theorem rows_rise {w : Wb} (ok : w.ok) : ∀ k, (w.rows k).Pairwise fun a b => rLt a b = true
  | 0 => by simp [Wb.rows]
  | k + 1 => by
    show ((w.rows k).flatMap fun r => (w.ties (k : Nat)).map fun t => r ++ [t]).Pairwise _
    rw [List.pairwise_flatMap]
    refine ⟨fun r hr => ?_, ?_⟩
    · rw [List.pairwise_map]
      refine (ties_rise ok (k : Nat)).imp fun {x y} h => ?_
      unfold rLt
      rw [List.map_append, List.map_append, rowLt_pre _ _ fun d hd => ?_]
      · have := rLt_one x y
        unfold rLt at this
        rw [this]; exact h
      · obtain ⟨z, _, rfl⟩ := List.mem_map.mp hd
        exact ⟨tie_alike z z, (tie_eqv z z).mpr rfl⟩
    · refine (List.Pairwise.and_mem.mp (rows_rise ok k)).imp fun {a b} ⟨ha, hb, h⟩ x hx y hy => ?_
      obtain ⟨t, _, rfl⟩ := List.mem_map.mp hx
      obtain ⟨u, _, rfl⟩ := List.mem_map.mp hy
      unfold rLt
      rw [List.map_append, List.map_append]
      exact rowLt_app _ _ (by simp [(rows_row ha).1, (rows_row hb).1]) (rows_alike a b) h
end W
namespace W
open PySem L2 HTr
end W
namespace W
open PySem L2 HTr
def prodA {α : Type} (rows : List α) (rel : Str → α → α → Bool) : List Arw := cols.flatMap fun c => rows.zipIdx.flatMap fun x => (rows.zipIdx.filter fun y => rel c x.1 y.1).map fun y => ⟨c, x.2, y.2⟩
def prodM {α : Type} (rows : List α) (has : Str → α → Bool) : List Mrk := mrks.flatMap fun m => (rows.zipIdx.filter fun x => has m x.1).map fun x => ⟨m, x.2⟩
theorem mem_zipIdx {α : Type} {rows : List α} {x : α} {i : Nat} : (x, i) ∈ rows.zipIdx ↔ rows[i]? = some x := by
  rw [List.mem_zipIdx_iff_getElem?]
theorem mem_prodA {α : Type} {rows : List α} {rel : Str → α → α → Bool} {y : Arw} : y ∈ prodA rows rel ↔ y.c ∈ cols ∧ ∃ a b, rows[y.a]? = some a ∧ rows[y.b]? = some b ∧ rel y.c a b = true := by
  unfold prodA
  constructor
  · intro h
    obtain ⟨c, hc, h⟩ := List.mem_flatMap.mp h
    obtain ⟨⟨a, i⟩, ha, h⟩ := List.mem_flatMap.mp h
    obtain ⟨⟨b, j⟩, hb, rfl⟩ := List.mem_map.mp h
    obtain ⟨hb, hr⟩ := List.mem_filter.mp hb
    exact ⟨hc, a, b, mem_zipIdx.mp ha, mem_zipIdx.mp hb, hr⟩
  · rintro ⟨hc, a, b, ha, hb, hr⟩
    exact List.mem_flatMap.mpr ⟨y.c, hc, List.mem_flatMap.mpr ⟨(a, y.a), mem_zipIdx.mpr ha, List.mem_map.mpr ⟨(b, y.b), List.mem_filter.mpr ⟨mem_zipIdx.mpr hb, hr⟩, rfl⟩⟩⟩
theorem mem_prodM {α : Type} {rows : List α} {has : Str → α → Bool} {y : Mrk} : y ∈ prodM rows has ↔ y.c ∈ mrks ∧ ∃ a, rows[y.a]? = some a ∧ has y.c a = true := by
  unfold prodM
  constructor
  · intro h
    obtain ⟨c, hc, h⟩ := List.mem_flatMap.mp h
    obtain ⟨⟨a, i⟩, ha, rfl⟩ := List.mem_map.mp h
    obtain ⟨ha, hr⟩ := List.mem_filter.mp ha
    exact ⟨hc, a, mem_zipIdx.mp ha, hr⟩
  · rintro ⟨hc, a, ha, hr⟩
    exact List.mem_flatMap.mpr ⟨y.c, hc, List.mem_map.mpr ⟨(a, y.a), List.mem_filter.mpr ⟨mem_zipIdx.mpr ha, hr⟩, rfl⟩⟩
theorem flatMap_le {α β : Type} {f : α → List β} {n : Nat} : ∀ {xs : List α}, (∀ x ∈ xs, (f x).length ≤ n) → (xs.flatMap f).length ≤ xs.length * n
  | [], _ => by simp
  | x :: xs, h => by
    rw [List.flatMap_cons, List.length_append, List.length_cons, Nat.add_mul]
    have h1 := h x (by simp)
    have h2 := flatMap_le (xs := xs) fun y hy => h y (by simp [hy])
    omega
theorem prodA_len {α : Type} (rows : List α) (rel : Str → α → α → Bool) : (prodA rows rel).length ≤ 3 * (rows.length * rows.length) := by
  refine Nat.le_trans (flatMap_le (n := rows.length * rows.length) fun c _ => ?_) (Nat.le_of_eq rfl)
  refine Nat.le_trans (flatMap_le (n := rows.length) fun x _ => ?_) (Nat.le_of_eq (by rw [List.length_zipIdx]))
  rw [List.length_map]
  exact Nat.le_trans (List.length_filter_le _ _) (Nat.le_of_eq List.length_zipIdx)
theorem prodM_len {α : Type} (rows : List α) (has : Str → α → Bool) : (prodM rows has).length ≤ 3 * rows.length := by
  refine Nat.le_trans (flatMap_le (n := rows.length) fun c _ => ?_) (Nat.le_of_eq rfl)
  rw [List.length_map]
  exact Nat.le_trans (List.length_filter_le _ _) (Nat.le_of_eq List.length_zipIdx)
end W
namespace W
open PySem L2 HTr
end W
namespace W
open PySem L2 HTr
end W
namespace W
open PySem L2 HTr
end W
namespace W
open PySem L2 HTr
end W
namespace W
open PySem L2 HTr
end W
namespace W
open PySem L2 HTr
theorem getD_ninj {m : List Nat} (nd : m.Nodup) {i j : Nat} (hi : i < m.length) (hj : j < m.length) (e : m.getD i 0 = m.getD j 0) : i = j := by
  rw [List.getD_eq_getElem?_getD, List.getD_eq_getElem?_getD, List.getElem?_eq_getElem hi, List.getElem?_eq_getElem hj] at e
  exact (List.getElem_inj nd).mp e
theorem take_len {m : List Nat} {k : Nat} (h : k < m.length) : (m.take (k + 1)).length - 1 = k := by rw [List.length_take]; omega
theorem Mp.weak {w1 w2 : Wb} {m : List Nat} (h : Mp w1 w2 true m) : Mp w1 w2 false m :=
  ⟨h.len, h.lt, fun k hk => let f := h.fits k hk; ⟨fun z => (by cases z), f.marks, f.on, f.bk⟩⟩
theorem Mp.nd {w1 w2 : Wb} {m : List Nat} (h : Mp w1 w2 true m) : m.Nodup := by
  refine List.pairwise_iff_getElem.mpr fun i j hi hj hij e => ?_
  have f := (h.fits j hj).apart rfl
  rw [take_len hj, take_getD _ _ _ (Nat.le_refl _), List.take_take, Nat.min_eq_left (by omega)] at f
  refine f ?_
  rw [List.getD_eq_getElem?_getD, List.getElem?_eq_getElem hj]
  exact List.mem_take_iff_getElem.mpr ⟨i, by omega, e⟩
end W
namespace W
open PySem L2 HTr
end W
namespace W
open PySem L2 HTr
theorem cut_drop {α : Type} (xs : List α) : cut xs (some 1) none = xs.drop 1 := by
  unfold cut
  have e1 : (some (1 : Int)) = some ((1 : Nat) : Int) := rfl
  rw [e1, HT.sIx_none, HT.sIx_nat]
  cases xs with
  | nil => simp
  | cons x xs =>
    have : min 1 (x :: xs).length = 1 := by simp
    simp
end W
namespace W
open PySem L2 HTr
end W
namespace W
open PySem L2 HTr
theorem fz_lent (ts : List T) : (L.lst (ts.map L.fz)).lent = true := by
  show (ts.map L.fz).all L.isFz = true
  refine List.all_eq_true.mpr fun l hl => ?_
  obtain ⟨t, _, rfl⟩ := List.mem_map.mp hl
  rfl
def flA (y : Arw) : Arw := ⟨y.c, y.b, y.a⟩
theorem flA_inj {x y : Arw} (h : flA x = flA y) : x = y := by
  obtain ⟨c, a, b⟩ := x
  obtain ⟨d, e, f⟩ := y
  simp only [flA, Arw.mk.injEq] at h ⊢
  exact ⟨h.1, h.2.2, h.2.1⟩
theorem flA_nd {as : List Arw} (h : as.Nodup) : (as.map flA).Nodup := List.pairwise_map.mpr (h.imp fun {x y} n e => n (flA_inj e))
structure Turned (w w' : Wb) : Prop where
  n : w'.n = w.n
  sA : SrtA (w.as.map flA) w'.as
  ms : w'.ms = w.ms
  ok : w'.ok
structure MovedW (s : List Nat) (many : Nat) (w w' : Wb) : Prop where
  n : w'.n = many
  sA : SrtA (w.as.map (mvA s)) w'.as
  sM : SrtM (w.ms.map (mvM s)) w'.ms
  ok : w'.ok
end W
namespace W
open PySem L2 HTr
def FineRow (w : Wb) (zs : List Int) : Prop := zs.Nodup ∧ ∀ z ∈ zs, w.has z
def kpA (zs : List Int) (as : List Arw) : List Arw := (as.filter fun y => decide ((y.a : Int) ∈ zs) && decide ((y.b : Int) ∈ zs)).map fun y => ⟨y.c, zs.idxOf (y.a : Int), zs.idxOf (y.b : Int)⟩
def kpM (zs : List Int) (ms : List Mrk) : List Mrk := (ms.filter fun y => decide ((y.a : Int) ∈ zs)).map fun y => ⟨y.c, zs.idxOf (y.a : Int)⟩
structure Kept (zs : List Int) (w w' : Wb) : Prop where
  n : w'.n = zs.length
  sA : SrtA (kpA zs w.as) w'.as
  sM : SrtM (kpM zs w.ms) w'.ms
  ok : w'.ok
end W
namespace W
open PySem L2 HTr
end W
namespace W
open PySem L2 HTr
end W
namespace W
open PySem L2 HTr
theorem MapN.mp {w1 w2 : Wb} {im : List Nat} (h : MapN w1 w2 im) : Mp w1 w2 false im := by
  have len := h.len
  have tl : ∀ k, k < im.length → (im.take (k + 1)).length - 1 = k := fun k hk => by rw [List.length_take]; omega
  refine ⟨len, h.lt, fun k hk => ⟨fun z => (by cases z), fun y hy e => ?_, fun c _ to ht hx => ?_, fun c _ of ho hx => ?_⟩⟩
  · rw [tl k hk] at e ⊢
    rw [take_getD _ _ _ (Nat.le_refl _), ← e]
    exact h.mks y hy
  · rw [tl k hk] at ht hx ⊢
    rw [take_getD _ _ _ (Nat.le_refl _), take_getD _ _ _ ht]
    exact h.on _ hx
  · rw [tl k hk] at ho hx ⊢
    rw [take_getD _ _ _ (Nat.le_refl _), take_getD _ _ _ ho]
    exact h.on _ hx
structure AllM (w1 w2 : Wb) (ms : List (List Nat)) : Prop where
  srt : Srt ms
  mem : ∀ m, m ∈ ms ↔ Mp w1 w2 false m
theorem AllM.nd {w1 w2 : Wb} {ms : List (List Nat)} (h : AllM w1 w2 ms) : ms.Nodup := by
  refine List.Pairwise.imp (R := fun a b => abv a b) (fun {a b} z e => ?_) h.srt
  rw [e] at z
  exact abv_irrefl b z
theorem Turned.map {w1 v1 w2 v2 : Wb} (h1 : Turned w1 v1) (h2 : Turned w2 v2) {m : List Nat} (h : MapN w1 w2 m) : MapN v1 v2 m := by
  refine ⟨by rw [h.len, h1.n], fun x hx => by rw [h2.n]; exact h.lt x hx, fun x hx => ?_, fun y hy => ?_⟩
  · obtain ⟨y, hy, rfl⟩ := List.mem_map.mp ((h1.sA.mem x).mp hx)
    exact (h2.sA.mem _).mpr (List.mem_map.mpr ⟨_, h.on y hy, rfl⟩)
  · rw [h2.ms]
    rw [h1.ms] at hy
    exact h.mks y hy
theorem perm_getD {n : Nat} {s : List Nat} (p : s.Perm (List.range n)) {i : Nat} (hi : i < n) : s.getD i 0 < n := by
  have sl : s.length = n := by rw [p.length_eq]; simp
  exact List.mem_range.mp (p.mem_iff.mp (getD_mem (by omega)))
theorem perm_idx {n : Nat} {s : List Nat} (p : s.Perm (List.range n)) {i : Nat} (hi : i < n) : s.idxOf i < n ∧ s.getD (s.idxOf i) 0 = i := by
  have sl : s.length = n := by rw [p.length_eq]; simp
  have hm : i ∈ s := p.mem_iff.mpr (List.mem_range.mpr hi)
  have := List.idxOf_lt_length_iff.mpr hm
  refine ⟨by omega, ?_⟩
  rw [List.getD_eq_getElem?_getD, List.getElem?_eq_getElem this]
  simp
theorem perm_idx2 {n : Nat} {s : List Nat} (p : s.Perm (List.range n)) {i : Nat} (hi : i < n) : s.idxOf (s.getD i 0) = i := by
  have sl : s.length = n := by rw [p.length_eq]; simp
  have h1 := perm_getD p hi
  obtain ⟨h2, h3⟩ := perm_idx p h1
  exact getD_ninj (p.nodup_iff.mpr List.nodup_range) (by omega) (by omega) h3
def conj (n : Nat) (s1 s2 m : List Nat) : List Nat := (List.range n).map fun p => s2.getD (m.getD (s1.idxOf p) 0) 0
theorem conj_getD {n p : Nat} {s1 s2 m : List Nat} (h : p < n) : (conj n s1 s2 m).getD p 0 = s2.getD (m.getD (s1.idxOf p) 0) 0 := by
  simp [conj, List.getD_eq_getElem?_getD, h]
theorem MapN.getD_lt {w1 w2 : Wb} {m : List Nat} (h : MapN w1 w2 m) {i : Nat} (hi : i < w1.n) : m.getD i 0 < w2.n := h.lt _ (getD_mem (by rw [h.len]; exact hi))
theorem Renum.map {w1 v1 w2 v2 : Wb} {s1 s2 m : List Nat} (o1 : w1.ok) (h1 : Renum s1 w1 v1) (h2 : Renum s2 w2 v2) (h : MapN w1 w2 m) : MapN v1 v2 (conj w1.n s1 s2 m) := by
  refine ⟨by simp [conj, h1.n], fun x hx => ?_, fun x hx => ?_, fun y hy => ?_⟩
  · obtain ⟨p, hp, rfl⟩ := List.mem_map.mp hx
    rw [h2.n]
    exact perm_getD h2.pm (h.getD_lt (perm_idx h1.pm (List.mem_range.mp hp)).1)
  · obtain ⟨y, hy, rfl⟩ := List.mem_map.mp ((h1.sA.mem x).mp hx)
    obtain ⟨_, a2, a3⟩ := o1.aok y hy
    show (⟨y.c, (conj w1.n s1 s2 m).getD (s1.getD y.a 0) 0, (conj w1.n s1 s2 m).getD (s1.getD y.b 0) 0⟩ : Arw) ∈ v2.as
    rw [conj_getD (perm_getD h1.pm a2), conj_getD (perm_getD h1.pm a3), perm_idx2 h1.pm a2, perm_idx2 h1.pm a3]
    exact (h2.sA.mem _).mpr (List.mem_map.mpr ⟨_, h.on y hy, rfl⟩)
  · obtain ⟨z, hz, rfl⟩ := List.mem_map.mp ((h1.sM.mem y).mp hy)
    obtain ⟨_, a2⟩ := o1.mok z hz
    show (⟨z.c, (conj w1.n s1 s2 m).getD (s1.getD z.a 0) 0⟩ : Mrk) ∈ v2.ms
    rw [conj_getD (perm_getD h1.pm a2), perm_idx2 h1.pm a2]
    exact (h2.sM.mem _).mpr (List.mem_map.mpr ⟨_, h.mks z hz, rfl⟩)
theorem Moved.map {s : List Nat} {k : Nat} {w v : Wb} (hl : s.length = w.n) (hs : ∀ x ∈ s, x < k) (h : MovedW s k w v) : MapN w v s :=
  ⟨hl, fun x hx => by rw [h.n]; exact hs x hx, fun x hx => (h.sA.mem _).mpr (List.mem_map.mpr ⟨x, hx, rfl⟩), fun y hy => (h.sM.mem _).mpr (List.mem_map.mpr ⟨y, hy, rfl⟩)⟩
theorem idx_get {zs : List Int} {z : Int} (h : z ∈ zs) (h0 : 0 ≤ z) : (zs.map Int.toNat).getD (zs.idxOf z) 0 = z.toNat := by
  have hi : zs.idxOf z < zs.length := List.idxOf_lt_length_iff.mpr h
  simp [List.getD_eq_getElem?_getD, hi]
theorem Kept.map {zs : List Int} {w v : Wb} (f : FineRow w zs) (h : Kept zs w v) : MapN v w (zs.map Int.toNat) := by
  refine ⟨by simp [h.n], fun x hx => ?_, fun x hx => ?_, fun y hy => ?_⟩
  · obtain ⟨z, hz, rfl⟩ := List.mem_map.mp hx
    have := f.2 z hz
    obtain ⟨a, b⟩ := this
    omega
  · obtain ⟨y, hy, rfl⟩ := List.mem_map.mp ((h.sA.mem x).mp hx)
    obtain ⟨hy, hd⟩ := List.mem_filter.mp hy
    simp only [Bool.and_eq_true, decide_eq_true_eq] at hd
    show (⟨y.c, (zs.map Int.toNat).getD (zs.idxOf (y.a : Int)) 0, (zs.map Int.toNat).getD (zs.idxOf (y.b : Int)) 0⟩ : Arw) ∈ w.as
    rw [idx_get hd.1 (by omega), idx_get hd.2 (by omega)]
    exact hy
  · obtain ⟨z, hz, rfl⟩ := List.mem_map.mp ((h.sM.mem y).mp hy)
    obtain ⟨hz, hd⟩ := List.mem_filter.mp hz
    have hd := of_decide_eq_true hd
    show (⟨z.c, (zs.map Int.toNat).getD (zs.idxOf (z.a : Int)) 0⟩ : Mrk) ∈ w.ms
    rw [idx_get hd (by omega)]
    exact hz
end W
namespace W
open PySem L2 HTr
end W
namespace W
open PySem L2 HTr
end W
namespace W
open PySem L2 HTr
end W
namespace W
open PySem L2 HTr
theorem dm {a b n : Nat} (hb : b < n) : (a * n + b) / n = a ∧ (a * n + b) % n = b := by
  constructor
  · rw [Nat.add_comm, Nat.add_mul_div_right _ _ (by omega), Nat.div_eq_of_lt hb, Nat.zero_add]
  · rw [Nat.add_comm, Nat.add_mul_mod_self_right, Nat.mod_eq_of_lt hb]
theorem rng_getD {f : Nat → Nat} {n i : Nat} (h : i < n) : ((List.range n).map f).getD i 0 = f i := by
  simp [List.getD_eq_getElem?_getD, h]
theorem mem_timA {w1 w2 : Wb} {y : Arw} : y ∈ timA w1 w2 ↔ ∃ u ∈ w1.as, ∃ z ∈ w2.as, z.c = u.c ∧ tA w2.n u z = y := by
  unfold timA
  constructor
  · intro h
    obtain ⟨u, hu, h⟩ := List.mem_flatMap.mp h
    obtain ⟨z, hz, e⟩ := List.mem_map.mp h
    obtain ⟨hz1, hz2⟩ := List.mem_filter.mp hz
    exact ⟨u, hu, z, hz1, of_decide_eq_true hz2, e⟩
  · rintro ⟨u, hu, z, hz, hc, e⟩
    exact List.mem_flatMap.mpr ⟨u, hu, List.mem_map.mpr ⟨z, List.mem_filter.mpr ⟨hz, decide_eq_true hc⟩, e⟩⟩
theorem mem_timM {w1 w2 : Wb} {y : Mrk} : y ∈ timM w1 w2 ↔ ∃ u ∈ w1.ms, ∃ z ∈ w2.ms, z.c = u.c ∧ tM w2.n u z = y := by
  unfold timM
  constructor
  · intro h
    obtain ⟨u, hu, h⟩ := List.mem_flatMap.mp h
    obtain ⟨z, hz, e⟩ := List.mem_map.mp h
    obtain ⟨hz1, hz2⟩ := List.mem_filter.mp hz
    exact ⟨u, hu, z, hz1, of_decide_eq_true hz2, e⟩
  · rintro ⟨u, hu, z, hz, hc, e⟩
    exact List.mem_flatMap.mpr ⟨u, hu, List.mem_map.mpr ⟨z, List.mem_filter.mpr ⟨hz, decide_eq_true hc⟩, e⟩⟩
theorem app_getD1 {x y : List Nat} {i : Nat} (h : i < x.length) : (x ++ y).getD i 0 = x.getD i 0 := by
  rw [List.getD_eq_getElem?_getD, List.getD_eq_getElem?_getD, List.getElem?_append_left h]
theorem app_getD2 {x y : List Nat} {i : Nat} : (x ++ y).getD (x.length + i) 0 = y.getD i 0 := by
  rw [List.getD_eq_getElem?_getD, List.getD_eq_getElem?_getD, List.getElem?_append_right (by omega), Nat.add_sub_cancel_left]
theorem MapN.split {w1 w2 B C : Wb} (o1 : w1.ok) (hB : Beside w1 w2 B) {m : List Nat} (h : MapN B C m) : MapN w1 C (m.take w1.n) ∧ MapN w2 C (m.drop w1.n) := by
  have len := h.len
  have bn := hB.n
  have l1 : (m.take w1.n).length = w1.n := by rw [List.length_take]; omega
  have e : m = m.take w1.n ++ m.drop w1.n := (List.take_append_drop _ _).symm
  have g1 : ∀ i, i < w1.n → m.getD i 0 = (m.take w1.n).getD i 0 := fun i hi => by
    conv => lhs; rw [e]
    exact app_getD1 (by omega)
  have g2 : ∀ i, m.getD (w1.n + i) 0 = (m.drop w1.n).getD i 0 := fun i => by
    conv => lhs; rw [e, ← l1]
    rw [l1]
    have := app_getD2 (x := m.take w1.n) (y := m.drop w1.n) (i := i)
    rwa [l1] at this
  refine ⟨⟨l1, fun z hz => h.lt z (List.mem_of_mem_take hz), fun u hu => ?_, fun u hu => ?_⟩, ⟨by rw [List.length_drop]; omega, fun z hz => h.lt z (List.mem_of_mem_drop hz), fun u hu => ?_, fun u hu => ?_⟩⟩
  · obtain ⟨_, a2, a3⟩ := o1.aok u hu
    rw [← g1 _ a2, ← g1 _ a3]
    exact h.on u ((hB.sA.mem u).mpr (List.mem_append_left _ hu))
  · obtain ⟨_, a2⟩ := o1.mok u hu
    rw [← g1 _ a2]
    exact h.mks u ((hB.sM.mem u).mpr (List.mem_append_left _ hu))
  · rw [← g2, ← g2]
    exact h.on (shA w1.n u) ((hB.sA.mem _).mpr (List.mem_append_right _ (List.mem_map.mpr ⟨u, hu, rfl⟩)))
  · rw [← g2]
    exact h.mks (shM w1.n u) ((hB.sM.mem _).mpr (List.mem_append_right _ (List.mem_map.mpr ⟨u, hu, rfl⟩)))
end W
namespace W
open PySem L2 HTr
def swp (n1 n2 : Nat) (m : List Nat) : List Nat := (List.range (n2 * n1)).map fun i => m.getD ((i % n1) * n2 + i / n1) 0
theorem swp_at {n1 n2 p q : Nat} {m : List Nat} (hp : p < n1) (hq : q < n2) : (swp n1 n2 m).getD (q * n1 + p) 0 = m.getD (p * n2 + q) 0 := by
  unfold swp
  rw [rng_getD (lt_mul hq hp)]
  obtain ⟨h1, h2⟩ := dm (a := q) hp
  rw [h1, h2]
theorem MapN.swap {w1 w2 T T' C : Wb} (o1 : w1.ok) (o2 : w2.ok) (h1 : Times w1 w2 T) (h2 : Times w2 w1 T') {m : List Nat} (h : MapN T C m) : MapN T' C (swp w1.n w2.n m) := by
  refine ⟨by simp [swp, h2.n], fun z hz => ?_, fun u hu => ?_, fun u hu => ?_⟩
  · obtain ⟨i, hi, rfl⟩ := List.mem_map.mp hz
    have hi := List.mem_range.mp hi
    have p1 : 0 < w1.n := by
      rcases Nat.eq_zero_or_pos w1.n with e | e
      · rw [e] at hi; simp at hi
      · exact e
    refine h.getD_lt ?_
    rw [h1.n]
    exact lt_mul (Nat.mod_lt _ p1) (Nat.div_lt_of_lt_mul (by rw [Nat.mul_comm]; exact hi))
  · obtain ⟨y, hy, z, hz, hc, rfl⟩ := mem_timA.mp ((h2.sA.mem u).mp hu)
    obtain ⟨_, y2, y3⟩ := o2.aok y hy
    obtain ⟨_, z2, z3⟩ := o1.aok z hz
    show (⟨y.c, (swp w1.n w2.n m).getD (y.a * w1.n + z.a) 0, (swp w1.n w2.n m).getD (y.b * w1.n + z.b) 0⟩ : Arw) ∈ C.as
    rw [swp_at z2 y2, swp_at z3 y3, ← hc]
    exact h.on (tA w2.n z y) ((h1.sA.mem _).mpr (mem_timA.mpr ⟨z, hz, y, hy, hc.symm, rfl⟩))
  · obtain ⟨y, hy, z, hz, hc, rfl⟩ := mem_timM.mp ((h2.sM.mem u).mp hu)
    obtain ⟨_, y2⟩ := o2.mok y hy
    obtain ⟨_, z2⟩ := o1.mok z hz
    show (⟨y.c, (swp w1.n w2.n m).getD (y.a * w1.n + z.a) 0⟩ : Mrk) ∈ C.ms
    rw [swp_at z2 y2, ← hc]
    exact h.mks (tM w2.n z y) ((h1.sM.mem _).mpr (mem_timM.mpr ⟨z, hz, y, hy, hc.symm, rfl⟩))
end W
namespace W
open PySem L2 HTr
end W
namespace W
open PySem L2 HTr
end W
namespace W
open PySem L2 HTr
end W
namespace W
open PySem L2 HTr
end W
namespace W
open PySem L2 HTr
def begN (w g : Wb) : List (List Nat) := (List.range w.n).map fun _ => List.range g.n
def parts (g : Wb) (p v : Nat) (x : Arw) : List (Nat × List Nat) := (if x.a = p then [(x.b, g.aft x.c v)] else []) ++ (if x.b = p then [(x.a, g.bef x.c v)] else [])
def badB (g : Wb) (Ls : List (List Nat)) (p v : Nat) (x : Arw) : Bool := (parts g p v x).any fun q => !(q.2.any fun u => decide (u ∈ Ls.getD q.1 []))
end W
namespace W
open PySem L2 HTr
def struckB (g : Wb) (Ls : List (List Nat)) (p v : Nat) : Tie → Bool
  | .inl x => badB g Ls p v x
  | .inr y => decide (y.a = p) && !decide (v ∈ g.mkd y.c)
abbrev Ent := Nat × Nat × Tie
def wties (w : Wb) : List Tie := w.as.map .inl ++ w.ms.map .inr
def rmv (Ls : List (List Nat)) (p v : Nat) : List (List Nat) := Ls.set p ((Ls.getD p []).erase v)
def WalkN (w g : Wb) : List Ent → List (List Nat) → List (List Nat) → Prop
  | [], Ls, Ls' => Ls' = Ls
  | e :: r, Ls, Ls' => e.1 < Ls.length ∧ e.2.1 ∈ Ls.getD e.1 [] ∧ e.2.2 ∈ wties w ∧ struckB g Ls e.1 e.2.1 e.2.2 = true ∧ WalkN w g r (rmv Ls e.1 e.2.1) Ls'
structure KL (w g : Wb) (Ls : List (List Nat)) : Prop where
  len : Ls.length = w.n
  ok : ∀ l ∈ Ls, l.Nodup ∧ ∀ v ∈ l, v < g.n
theorem KL.at {w g : Wb} {Ls : List (List Nat)} (h : KL w g Ls) {p : Nat} (hp : p < w.n) : (Ls.getD p []).Nodup ∧ ∀ v ∈ Ls.getD p [], v < g.n := by
  have hl : p < Ls.length := by rw [h.len]; exact hp
  have : Ls.getD p [] ∈ Ls := by
    rw [List.getD_eq_getElem?_getD, List.getElem?_eq_getElem hl]
    exact List.getElem_mem hl
  exact h.ok _ this
def tot (Ls : List (List Nat)) : Nat := (Ls.map List.length).sum
structure Strk (w g : Wb) (row : List Ent) (Ls : List (List Nat)) : Prop where
  walk : WalkN w g row (begN w g) Ls
  kl : KL w g Ls
  tot : row.length + W.tot Ls = w.n * g.n
theorem lst_fz_tree (ts : List T) : (L.lst (ts.map L.fz)).tree = .lst ts := by
  show T.lst (L.trees _) = _
  rw [L.trees_fz]
end W
namespace W
open PySem L2 HTr
abbrev EZ := Int × Int × T
def eT (e : EZ) : T := .tup [.int e.1, .int e.2.1, e.2.2]
end W
namespace W
open PySem L2 HTr
end W
namespace W
open PySem L2 HTr
end W
namespace W
open PySem L2 HTr
end W
namespace W
open PySem L2 HTr
end W
namespace W
open PySem L2 HTr
end W
namespace W
open PySem L2 HTr
end W
namespace W
open PySem L2 HTr
def farA (a : Arw) (p : Nat) : Nat := if a.a = p then a.b else a.a
def upI (ups : List (Option Arw)) (i : Nat) : Option Arw := ups.getD i none
def Ends (a : Arw) (u v : Nat) : Prop := (a.a = u ∧ a.b = v) ∨ (a.a = v ∧ a.b = u)
structure RtI (w : Wb) (r : Nat) (line : List Nat) (ups : List (Option Arw)) : Prop where
  nd : line.Nodup
  hd : line[0]? = some r
  lt : ∀ x ∈ line, x < w.n
  len : ups.length = line.length
  u0 : upI ups 0 = none
  par : ∀ i, 0 < i → i < line.length → ∃ j a u v, j < i ∧ upI ups i = some a ∧ a ∈ w.as ∧ line[j]? = some u ∧ line[i]? = some v ∧ Ends a u v
theorem RtI.one {w : Wb} {r : Nat} (h : r < w.n) : RtI w r [r] [none] :=
  ⟨by simp, rfl, fun x hx => by simp at hx; subst hx; exact h, rfl, rfl, fun i h1 h2 => by simp at h2; omega⟩
theorem ixl_inj {line : List Nat} (nd : line.Nodup) {i j x : Nat} (h1 : line[i]? = some x) (h2 : line[j]? = some x) : i = j :=
  (List.getElem?_inj (List.getElem?_eq_some_iff.mp h1).1 nd).mp (h1.trans h2.symm)
theorem RtI.up_inj {w : Wb} {r : Nat} {line : List Nat} {ups : List (Option Arw)} (h : RtI w r line ups) {i j : Nat} (hi : 0 < i) (il : i < line.length) (hj : 0 < j) (jl : j < line.length) (e : upI ups i = upI ups j) : i = j := by
  obtain ⟨i', a, u, v, p1, p2, p3, p4, p5, p6⟩ := h.par i hi il
  obtain ⟨j', b, u', v', q1, q2, q3, q4, q5, q6⟩ := h.par j hj jl
  rw [p2, q2] at e
  cases e
  have vv : v = v' → i = j := fun z => ixl_inj h.nd p5 (by rw [z]; exact q5)
  have uv : u = v' → v = u' → i = j := fun z1 z2 => by
    subst z1 z2
    have := ixl_inj h.nd p4 q5
    have := ixl_inj h.nd p5 q4
    omega
  rcases p6 with ⟨x1, x2⟩ | ⟨x1, x2⟩ <;> rcases q6 with ⟨y1, y2⟩ | ⟨y1, y2⟩
  · exact vv (x2.symm.trans y2)
  · exact uv (x1.symm.trans y1) (x2.symm.trans y2)
  · exact uv (x2.symm.trans y2) (x1.symm.trans y1)
  · exact vv (x1.symm.trans y1)
def RtC (w : Wb) (line : List Nat) (k : Nat) : Prop := ∀ x ∈ line.take k, ∀ y, Adj w.as x y → y ∈ line
structure RtF (w : Wb) (r : Nat) (line : List Nat) (ups : List (Option Arw)) : Prop where
  i : RtI w r line ups
  all : ∀ x, x < w.n → x ∈ line
  on : ∀ a ∈ w.as, ∃ c, 0 < c ∧ c < line.length ∧ upI ups c = some a
theorem RtF.of {w : Wb} {r : Nat} {line : List Nat} {ups : List (Option Arw)} (tr : w.Tree) (h : RtI w r line ups) (cl : RtC w line line.length) : RtF w r line ups := by
  have hr : r ∈ line := List.mem_of_getElem? h.hd
  have all : ∀ x, x < w.n → x ∈ line := fun x hx => by
    have c : Conn w.as r x := (tr.2.2 r (h.lt r hr)).symm.trans (tr.2.2 x hx)
    clear hx
    induction c with
    | refl => exact hr
    | step _ b ih =>
      refine cl _ ?_ _ b
      rw [List.take_length]
      exact ih
  have ll : w.n ≤ line.length := by
    have := nodup_len (xs := List.range w.n) (ys := line) List.nodup_range fun x hx => all x (List.mem_range.mp hx)
    simpa using this
  refine ⟨h, all, fun a ha => ?_⟩
  have t1 := tr.2.1
  by_cases hm : ∃ c, 0 < c ∧ c < line.length ∧ upI ups c = some a
  · exact hm
  exfalso
  let B := (List.range (line.length - 1)).map fun i => upI ups (i + 1)
  have nB : B.Nodup := nodup_map_on (fun x hx y hy e => by
    have hx := List.mem_range.mp hx
    have hy := List.mem_range.mp hy
    have := h.up_inj (i := x + 1) (j := y + 1) (by omega) (by omega) (by omega) (by omega) e
    omega) List.nodup_range
  have nB2 : (some a :: B).Nodup := List.nodup_cons.mpr ⟨fun z => by
    obtain ⟨i, hi, e⟩ := List.mem_map.mp z
    have hi := List.mem_range.mp hi
    exact hm ⟨i + 1, by omega, by omega, e⟩, nB⟩
  have := nodup_len (ys := w.as.map some) nB2 fun x hx => by
    rcases List.mem_cons.mp hx with rfl | hx
    · exact List.mem_map.mpr ⟨a, ha, rfl⟩
    · obtain ⟨i, hi, rfl⟩ := List.mem_map.mp hx
      have hi := List.mem_range.mp hi
      obtain ⟨_, b, _, _, _, q2, q3, _⟩ := h.par (i + 1) (by omega) (by omega)
      rw [q2]
      exact List.mem_map.mpr ⟨b, q3, rfl⟩
  simp [B] at this
  omega
theorem RtF.len {w : Wb} {r : Nat} {line : List Nat} {ups : List (Option Arw)} (h : RtF w r line ups) : line.length = w.n := by
  have a := nodup_len (xs := List.range w.n) (ys := line) List.nodup_range fun x hx => h.all x (List.mem_range.mp hx)
  have b := nodup_len (xs := line) (ys := List.range w.n) h.i.nd fun x hx => List.mem_range.mpr (h.i.lt x hx)
  simp at a b
  omega
end W
namespace W
open PySem L2 HTr
section
variable {n : Nat} {pf : Nat → Nat}
def kids (n : Nat) (pf : Nat → Nat) (i : Nat) : List Nat := (List.range n).filter fun c => decide (0 < c ∧ pf c = i)
def dd (n : Nat) (pf : Nat → Nat) : Nat → Nat → Nat
  | 0, _ => 0
  | f + 1, i => ((kids n pf i).map fun c => dd n pf f c + 1).sum
end
end W
namespace W
open PySem L2 HTr
def prodN (xs : List Nat) : Nat := xs.foldr (· * ·) 1
def acr (g : Wb) (a : Arw) (p x : Nat) : List Nat := if a.a = p then g.aft a.c x else g.bef a.c x
def fac (g : Wb) (V : Nat → Nat → Nat) (p x : Nat) : Tie → Nat
  | .inl a => ((acr g a p x).map (V (farA a p))).sum
  | .inr m => if x ∈ g.mkd m.c then 1 else 0
def tiesN (w : Wb) (p : Nat) : List Tie := (w.tA p).map .inl ++ (w.tM p).map .inr
def awT (w : Wb) (up : Option Arw) (p : Nat) : List Tie := (tiesN w p).filter fun t => decide (some t ≠ up.map .inl)
noncomputable def cvF (w g : Wb) (line : List Nat) (ups : List (Option Arw)) : Nat → Nat → Nat → Nat
  | 0, _, _ => 0
  | f + 1, p, x => prodN ((awT w (upI ups (line.idxOf p)) p).map (fac g (cvF w g line ups f) p x))
noncomputable def cv (w g : Wb) (line : List Nat) (ups : List (Option Arw)) : Nat → Nat → Nat := cvF w g line ups line.length
end W
namespace W
open PySem L2 HTr
end W
namespace W
open PySem L2 HTr
end W
namespace W
open PySem L2 HTr
end W
namespace W
open PySem L2 HTr
end W
namespace W
open PySem L2 HTr
end W
namespace W
open PySem L2 HTr
end W
namespace W
open PySem L2 HTr
end W
namespace W
open PySem L2 HTr
end W
namespace W
open PySem L2 HTr
section
variable {w g : Wb} {r : Nat} {line : List Nat} {ups : List (Option Arw)} {pf : Nat → Nat}
noncomputable def mg (w g : Wb) (line : List Nat) (ups : List (Option Arw)) (pf : Nat → Nat) (c y : Nat) : Nat := match upI ups c with
  | some a => ((acr g a (line.getD (pf c) 0) y).map (cv w g line ups (line.getD c 0))).sum
  | none => 0
end
end W
namespace W
open PySem L2 HTr
end W
namespace W
open PySem L2 HTr
end W
namespace W
open PySem L2 HTr
end W
namespace W
open PySem L2 HTr
end W
namespace W
open PySem L2 HTr
def NL (u : L) (xs : List Nat) : Prop := u = .fz (natsT xs) ∨ u = .lst (xs.map (L.fz ∘ fun (i : Nat) => T.int i))
theorem NL.strip {u : L} {xs : List Nat} (h : NL u xs) : u.strip = u := by
  rcases h with rfl | rfl <;> rfl
theorem NL.tree {u : L} {xs : List Nat} (h : NL u xs) : u.tree = .lst (xs.map fun (i : Nat) => T.int i) := by
  rcases h with rfl | rfl
  · rfl
  · rw [← List.map_map]; exact lst_fz_tree _
end W
namespace W
open PySem L2 HTr
end W
namespace W
open PySem L2 HTr
end W
namespace W
open PySem L2 HTr
theorem mapD_lt {w g : Wb} {m : List Nat} (h : MapN w g m) {q : Nat} (hq : q < w.n) : m[q]? = some (m.getD q 0) ∧ m.getD q 0 < g.n := by
  have e : m[q]? = some (m.getD q 0) := by
    rw [List.getD_eq_getElem?_getD, List.getElem?_eq_getElem (by rw [h.len]; exact hq)]; rfl
  exact ⟨e, h.lt _ (List.mem_of_getElem? e)⟩
theorem badB_false {g : Wb} {Ls : List (List Nat)} {p v : Nat} {x : Arw} : badB g Ls p v x = false ↔ (x.a = p → ∃ u ∈ g.aft x.c v, u ∈ Ls.getD x.b []) ∧ (x.b = p → ∃ u ∈ g.bef x.c v, u ∈ Ls.getD x.a []) := by
  have key : ∀ (q : Nat) (us : List Nat), (!(us.any fun u => decide (u ∈ Ls.getD q []))) = false ↔ ∃ u ∈ us, u ∈ Ls.getD q [] := fun q us => by
    rw [Bool.not_eq_false', List.any_eq_true]
    constructor
    · rintro ⟨u, h1, h2⟩; exact ⟨u, h1, of_decide_eq_true h2⟩
    · rintro ⟨u, h1, h2⟩; exact ⟨u, h1, decide_eq_true h2⟩
  unfold badB parts
  rw [List.any_append, Bool.or_eq_false_iff]
  refine and_congr ?_ ?_
  · by_cases c : x.a = p
    · rw [if_pos c]
      simp only [List.any_cons, List.any_nil, Bool.or_false]
      rw [key]
      exact ⟨fun h _ => h, fun h => h c⟩
    · rw [if_neg c]
      exact ⟨fun _ z => (c z).elim, fun _ => rfl⟩
  · by_cases c : x.b = p
    · rw [if_pos c]
      simp only [List.any_cons, List.any_nil, Bool.or_false]
      rw [key]
      exact ⟨fun h _ => h, fun h => h c⟩
    · rw [if_neg c]
      exact ⟨fun _ z => (c z).elim, fun _ => rfl⟩
theorem map_unstruck {w g : Wb} (ok : w.ok) {m : List Nat} (hm : MapN w g m) {Ls : List (List Nat)} (hl : ∀ q, q < w.n → m.getD q 0 ∈ Ls.getD q []) {t : Tie} (ht : t ∈ wties w) (p : Nat) : struckB g Ls p (m.getD p 0) t = false := by
  cases t with
  | inl a =>
    have ha : a ∈ w.as := by
      rcases List.mem_append.mp ht with h | h
      · obtain ⟨x, hx, e⟩ := List.mem_map.mp h; cases e; exact hx
      · obtain ⟨x, hx, e⟩ := List.mem_map.mp h; cases e
    have z := ok.aok a ha
    have on := hm.on a ha
    refine badB_false.mpr ⟨fun e => ⟨m.getD a.b 0, mem_aft.mpr ?_, hl _ z.2.2⟩, fun e => ⟨m.getD a.a 0, mem_bef.mpr ?_, hl _ z.2.1⟩⟩
    · rw [← e]; exact on
    · rw [← e]; exact on
  | inr y =>
    have hy : y ∈ w.ms := by
      rcases List.mem_append.mp ht with h | h
      · obtain ⟨x, hx, e⟩ := List.mem_map.mp h; cases e
      · obtain ⟨x, hx, e⟩ := List.mem_map.mp h; cases e; exact hx
    show (decide (y.a = p) && !decide (m.getD p 0 ∈ g.mkd y.c)) = false
    by_cases e : y.a = p
    · have := mem_mkd.mpr (hm.mks y hy)
      rw [e] at this
      rw [decide_eq_true this]
      simp
    · rw [decide_eq_false e]
      rfl
theorem walk_keeps {w g : Wb} (ok : w.ok) {m : List Nat} (hm : MapN w g m) : ∀ {row : List Ent} {L0 Ls : List (List Nat)}, WalkN w g row L0 Ls → (∀ q, q < w.n → m.getD q 0 ∈ L0.getD q []) → ∀ q, q < w.n → m.getD q 0 ∈ Ls.getD q []
  | [], L0, Ls, h, hl => by
    obtain rfl : Ls = L0 := h
    exact hl
  | e :: r, L0, Ls, ⟨h1, h2, h3, h4, h⟩, hl => by
    refine walk_keeps ok hm h fun q hq => ?_
    unfold rmv
    by_cases c : q = e.1
    · subst c
      rw [List.getD_eq_getElem?_getD, List.getElem?_set_self h1]
      refine (List.mem_erase_of_ne fun z => ?_).mpr (hl _ hq)
      rw [← z, map_unstruck ok hm hl h3] at h4
      cases h4
    · rw [List.getD_eq_getElem?_getD, List.getElem?_set_ne (fun z => c z.symm), ← List.getD_eq_getElem?_getD]
      exact hl q hq
theorem beg_get {w g : Wb} {q : Nat} (hq : q < w.n) : (begN w g).getD q [] = List.range g.n := by
  unfold begN
  rw [List.getD_eq_getElem?_getD, List.getElem?_map, List.getElem?_range hq]
  rfl
theorem Strk.keeps {w g : Wb} (ok : w.ok) {row : List Ent} {Ls : List (List Nat)} (h : Strk w g row Ls) {m : List Nat} (hm : MapN w g m) {q : Nat} (hq : q < w.n) : m.getD q 0 ∈ Ls.getD q [] :=
  walk_keeps ok hm h.walk (fun q hq => by rw [beg_get hq]; exact List.mem_range.mpr (mapD_lt hm hq).2) q hq
theorem walk_srt {w g : Wb} : ∀ {row : List Ent} {L0 Ls : List (List Nat)}, WalkN w g row L0 Ls → (∀ l ∈ L0, l.Pairwise (· < ·)) → ∀ l ∈ Ls, l.Pairwise (· < ·)
  | [], L0, Ls, h, hl => by
    obtain rfl : Ls = L0 := h
    exact hl
  | e :: r, L0, Ls, ⟨h1, h2, h3, h4, h⟩, hl => by
    refine walk_srt h fun l hm => ?_
    rcases List.mem_or_eq_of_mem_set hm with z | z
    · exact hl l z
    · rw [z]
      refine List.Pairwise.sublist List.erase_sublist (hl _ ?_)
      rw [List.getD_eq_getElem?_getD, List.getElem?_eq_getElem h1]
      exact List.getElem_mem h1
theorem Strk.getMem {w g : Wb} {row : List Ent} {Ls : List (List Nat)} (h : Strk w g row Ls) {q : Nat} (hq : q < w.n) : Ls.getD q [] ∈ Ls := by
  have l := h.kl.len
  rw [List.getD_eq_getElem?_getD, List.getElem?_eq_getElem (by omega)]
  exact List.getElem_mem _
theorem Strk.srt {w g : Wb} {row : List Ent} {Ls : List (List Nat)} (h : Strk w g row Ls) {q : Nat} (hq : q < w.n) : (Ls.getD q []).Pairwise (· < ·) :=
  walk_srt h.walk (fun l hl => by obtain ⟨_, _, rfl⟩ := List.mem_map.mp hl; exact List.pairwise_lt_range) _ (h.getMem hq)
end W
namespace W
open PySem L2 HTr
end W
namespace W
open PySem L2 HTr
end W
namespace W
open PySem L2 HTr
end W
namespace W
open PySem L2 HTr
end W
namespace W
open PySem L2 HTr
end W
namespace W
open PySem L2 HTr
end W
namespace W
open PySem L2 HTr
end W
namespace W
open PySem L2 HTr
end W
namespace W
open PySem L2 HTr
end W
namespace W
open PySem L2 HTr
end W
namespace W
open PySem L2 HTr
end W
namespace W
open PySem L2 HTr
end W
namespace W
open PySem L2 HTr
theorem rows_of {w : Wb} : ∀ (k : Nat) (r : List Tie), (r.length = k ∧ ∀ j (t : Tie), r[j]? = some t → t ∈ w.ties (j : Nat)) → r ∈ w.rows k
  | 0, r, ⟨h, _⟩ => by
    have := List.length_eq_zero_iff.mp h
    subst this
    simp [Wb.rows]
  | k + 1, r, ⟨h1, h2⟩ => by
    rcases List.eq_nil_or_concat r with e | ⟨r0, t, e⟩
    · subst e
      simp at h1
    · rw [List.concat_eq_append] at e
      subst e
      have l0 : r0.length = k := by simpa using h1
      refine List.mem_flatMap.mpr ⟨r0, rows_of k r0 ⟨l0, fun j u e => h2 j u ?_⟩, List.mem_map.mpr ⟨t, h2 k t ?_, rfl⟩⟩
      · rw [List.getElem?_append_left (List.getElem?_eq_some_iff.mp e).1]
        exact e
      · rw [List.getElem?_append_right (by omega), l0]
        simp
theorem mem_rows {w : Wb} {k : Nat} {r : List Tie} : r ∈ w.rows k ↔ r.length = k ∧ ∀ j (t : Tie), r[j]? = some t → t ∈ w.ties (j : Nat) := ⟨rows_row, rows_of k r⟩
theorem rows_nd {w : Wb} (ok : w.ok) (k : Nat) : (w.rows k).Nodup := by
  refine List.Pairwise.imp (R := fun a b => rLt a b = true) (fun {a b} h e => ?_) (rows_rise ok k)
  subst e
  have q : rLt a a = false := rLt_irr _
  rw [q] at h
  cases h
end W
namespace W
open PySem L2 HTr
end W
namespace W
open PySem L2 HTr
end W
namespace W
open PySem L2 HTr
end W
namespace W
open PySem L2 HTr
def both (a : Arw) (r s : List Tie) : Bool := decide (r[a.a]? = some (Sum.inl a)) && decide (s[a.b]? = some (Sum.inl a))
def wardRel (w : Wb) (c : Str) (r s : List Tie) : Bool := !((w.as.filter fun a => decide (a.c = c)).any fun a => both a r s)
def tieC : Tie → Str
  | .inl a => a.c
  | .inr m => m.c
def wardHas (_ : Wb) (m : Str) (r : List Tie) : Bool := !(r.any fun t => decide (tieC t = m))
structure WardW (w w' : Wb) : Prop where
  n : w'.n = (w.rows w.n).length
  sA : SrtA (prodA (w.rows w.n) (wardRel w)) w'.as
  sM : SrtM (prodM (w.rows w.n) (wardHas w)) w'.ms
  ok : w'.ok
theorem row_tie {w : Wb} {r : List Tie} (hr : r ∈ w.rows w.n) {p : Nat} (hp : p < w.n) : ∃ t, r[p]? = some t ∧ t ∈ w.ties (p : Nat) := by
  obtain ⟨h1, h2⟩ := mem_rows.mp hr
  have g : r[p]? = some (r[p]'(by omega)) := List.getElem?_eq_getElem (by omega)
  exact ⟨_, g, h2 _ _ g⟩
end W
namespace W
open PySem L2 HTr
end W
namespace W
open HTr PySem L2
end W
namespace W
open PySem L2 HTr
end W
namespace W
open HTr PySem L2
theorem WardW.len {w v : Wb} (h : WardW w v) {r : Nat} (hr : (w.rows w.n).length ≤ r) : v.as.length ≤ 3 * (r * r) ∧ v.ms.length ≤ 3 * r := by
  have a := nodup_len h.sA.nd fun y hy => (h.sA.mem y).mp hy
  have b := nodup_len h.sM.nd fun y hy => (h.sM.mem y).mp hy
  have := prodA_len (w.rows w.n) (wardRel w)
  have := prodM_len (w.rows w.n) (wardHas w)
  have : (w.rows w.n).length * (w.rows w.n).length ≤ r * r := Nat.mul_le_mul hr hr
  exact ⟨by omega, by omega⟩
end W
namespace W
open PySem L2 HTr
end W
namespace W
open HTr PySem L2
end W
namespace W
open HTr PySem L2
end W
namespace W
open PySem L2 HTr
end W
namespace W
open HTr PySem L2
structure RowW {α : Type} (rows : List α) (R : Str → α → α → Bool) (H : Str → α → Bool) (u : Wb) : Prop where
  n : u.n = rows.length
  as : ∀ y : Arw, y ∈ u.as ↔ y.c ∈ cols ∧ ∃ a b, rows[y.a]? = some a ∧ rows[y.b]? = some b ∧ R y.c a b = true
  ms : ∀ y : Mrk, y ∈ u.ms ↔ y.c ∈ mrks ∧ ∃ a, rows[y.a]? = some a ∧ H y.c a = true
theorem WardW.row {w v : Wb} (h : WardW w v) : RowW (w.rows w.n) (wardRel w) (wardHas w) v := ⟨h.n, fun y => (h.sA.mem y).trans mem_prodA, fun y => (h.sM.mem y).trans mem_prodM⟩
theorem RowW.turn {α : Type} {rows : List α} {R : Str → α → α → Bool} {H : Str → α → Bool} {v u : Wb} (h : RowW rows R H v) (t : Turned v u) : RowW rows (fun c a b => R c b a) H u := by
  refine ⟨t.n.trans h.n, fun y => (t.sA.mem y).trans ?_, fun y => by rw [t.ms]; exact h.ms y⟩
  rw [List.mem_map]
  constructor
  · rintro ⟨x, hx, rfl⟩
    obtain ⟨h1, a, b, h2, h3, h4⟩ := (h.as x).mp hx
    exact ⟨h1, b, a, h3, h2, h4⟩
  · rintro ⟨h1, a, b, h2, h3, h4⟩
    exact ⟨flA y, (h.as _).mpr ⟨h1, b, a, h3, h2, h4⟩, rfl⟩
structure LikeT (w w' : Wb) (f g : Nat → Nat) (τ : Tie → Tie) : Prop where
  n : w'.n = w.n
  p1 : ∀ p, p < w.n → f p < w.n ∧ g (f p) = p
  p2 : ∀ q, q < w.n → g q < w.n ∧ f (g q) = q
  t1 : ∀ p t, p < w.n → t ∈ w.ties (p : Nat) → τ t ∈ w'.ties (f p : Nat)
  t2 : ∀ p t', p < w.n → t' ∈ w'.ties (f p : Nat) → ∃ t ∈ w.ties (p : Nat), τ t = t'
  ti : ∀ p t u, p < w.n → t ∈ w.ties (p : Nat) → u ∈ w.ties (p : Nat) → τ t = τ u → t = u
  tc : ∀ t, tieC (τ t) = tieC t
def LikeR (w w' : Wb) (f : Nat → Nat) (τ : Tie → Tie) (r r' : List Tie) : Prop := r ∈ w.rows w.n ∧ r' ∈ w'.rows w'.n ∧ ∀ p, p < w.n → ∃ t, r[p]? = some t ∧ r'[f p]? = some (τ t)
section
variable {w w' : Wb} {f g : Nat → Nat} {τ : Tie → Tie}
theorem LikeT.tot (h : LikeT w w' f g τ) : ∀ r ∈ w.rows w.n, ∃ r' ∈ w'.rows w'.n, LikeR w w' f τ r r' := fun r hr => by
  have e : ((List.range w.n).map fun q => τ (r.getD (g q) (.inr ⟨"", 0⟩))) ∈ w'.rows w'.n := by
    refine mem_rows.mpr ⟨by simp [h.n], fun j t ht => ?_⟩
    rw [List.getElem?_map] at ht
    obtain ⟨q, hq, rfl⟩ := Option.map_eq_some_iff.mp ht
    obtain ⟨hj, e⟩ := List.getElem?_eq_some_iff.mp hq
    rw [List.getElem_range] at e
    subst e
    have hj : j < w.n := by simpa using hj
    obtain ⟨p1, p2⟩ := h.p2 j hj
    obtain ⟨t, e1, e2⟩ := row_tie hr p1
    have := h.t1 _ _ p1 e2
    rw [p2] at this
    rw [List.getD_eq_getElem?_getD, e1]
    exact this
  refine ⟨_, e, hr, e, fun p hp => ?_⟩
  obtain ⟨t, e1, e2⟩ := row_tie hr hp
  obtain ⟨q1, q2⟩ := h.p1 p hp
  refine ⟨t, e1, ?_⟩
  rw [List.getElem?_map, List.getElem?_range q1]
  show some (τ (r.getD (g (f p)) _)) = _
  rw [q2, List.getD_eq_getElem?_getD, e1]
  rfl
theorem LikeT.sur (h : LikeT w w' f g τ) : ∀ r' ∈ w'.rows w'.n, ∃ r ∈ w.rows w.n, LikeR w w' f τ r r' := fun r' hr' => by
  have ex : ∀ p, ∃ t, p < w.n → t ∈ w.ties (p : Nat) ∧ r'[f p]? = some (τ t) := fun p => by
    by_cases hp : p < w.n
    · obtain ⟨t', e1, e2⟩ := row_tie hr' (p := f p) (by rw [h.n]; exact (h.p1 p hp).1)
      obtain ⟨t, ht, e⟩ := h.t2 _ _ hp e2
      exact ⟨t, fun _ => ⟨ht, by rw [e1, e]⟩⟩
    · exact ⟨.inr ⟨"", 0⟩, fun z => absurd z hp⟩
  obtain ⟨k, hk⟩ : ∃ k : Nat → Tie, ∀ p, p < w.n → k p ∈ w.ties (p : Nat) ∧ r'[f p]? = some (τ (k p)) := ⟨fun p => (ex p).choose, fun p => (ex p).choose_spec⟩
  have e : ((List.range w.n).map k) ∈ w.rows w.n := by
    refine mem_rows.mpr ⟨by simp, fun j t ht => ?_⟩
    rw [List.getElem?_map] at ht
    obtain ⟨q, hq, rfl⟩ := Option.map_eq_some_iff.mp ht
    obtain ⟨hj, e⟩ := List.getElem?_eq_some_iff.mp hq
    rw [List.getElem_range] at e
    subst e
    exact (hk j (by simpa using hj)).1
  refine ⟨_, e, e, hr', fun p hp => ⟨k p, ?_, (hk p hp).2⟩⟩
  rw [List.getElem?_map, List.getElem?_range hp]
  rfl
theorem LikeT.fn (h : LikeT w w' f g τ) : ∀ a b c, LikeR w w' f τ a b → LikeR w w' f τ a c → b = c := fun a b c h1 h2 => by
  have lb := (mem_rows.mp h1.2.1).1
  have lc := (mem_rows.mp h2.2.1).1
  refine List.ext_getElem? fun q => ?_
  by_cases hq : q < w.n
  · obtain ⟨p1, p2⟩ := h.p2 q hq
    obtain ⟨t, e1, e2⟩ := h1.2.2 _ p1
    obtain ⟨u, g1, g2⟩ := h2.2.2 _ p1
    rw [p2] at e2 g2
    obtain rfl : t = u := Option.some.inj (e1.symm.trans g1)
    rw [e2, g2]
  · have := h.n
    rw [List.getElem?_eq_none (by omega), List.getElem?_eq_none (by omega)]
theorem LikeT.inj (h : LikeT w w' f g τ) : ∀ a b c, LikeR w w' f τ a c → LikeR w w' f τ b c → a = b := fun a b c h1 h2 => by
  have la := (mem_rows.mp h1.1).1
  have lb := (mem_rows.mp h2.1).1
  refine List.ext_getElem? fun p => ?_
  by_cases hp : p < w.n
  · obtain ⟨t, e1, e2⟩ := h1.2.2 _ hp
    obtain ⟨u, g1, g2⟩ := h2.2.2 _ hp
    have e := Option.some.inj (e2.symm.trans g2)
    obtain ⟨t0, k1, k2⟩ := row_tie h1.1 hp
    obtain ⟨u0, l1, l2⟩ := row_tie h2.1 hp
    obtain rfl : t = t0 := Option.some.inj (e1.symm.trans k1)
    obtain rfl : u = u0 := Option.some.inj (g1.symm.trans l1)
    rw [e1, g1, h.ti _ _ _ hp k2 l2 e]
  · rw [List.getElem?_eq_none (by omega), List.getElem?_eq_none (by omega)]
theorem LikeT.at_ (h : LikeT w w' f g τ) {r r' : List Tie} (l : LikeR w w' f τ r r') {p : Nat} (hp : p < w.n) {t : Tie} (ht : t ∈ w.ties (p : Nat)) : r[p]? = some t ↔ r'[f p]? = some (τ t) := by
  obtain ⟨u, e1, e2⟩ := l.2.2 p hp
  obtain ⟨u0, k1, k2⟩ := row_tie l.1 hp
  obtain rfl : u = u0 := Option.some.inj (e1.symm.trans k1)
  rw [e1, e2]
  constructor
  · intro e
    rw [Option.some.inj e]
  · intro e
    rw [h.ti _ _ _ hp k2 ht (Option.some.inj e)]
theorem LikeT.has (h : LikeT w w' f g τ) (k : Str) (r r' : List Tie) (l : LikeR w w' f τ r r') : wardHas w k r = wardHas w' k r' := by
  unfold wardHas
  congr 1
  rw [Bool.eq_iff_iff, List.any_eq_true, List.any_eq_true]
  have lr := (mem_rows.mp l.1).1
  have lr' := (mem_rows.mp l.2.1).1
  constructor
  · rintro ⟨t, ht, e⟩
    obtain ⟨p, hp⟩ := List.getElem?_of_mem ht
    obtain ⟨u, e1, e2⟩ := l.2.2 p (by rw [← lr]; exact (List.getElem?_eq_some_iff.mp hp).1)
    obtain rfl : u = t := Option.some.inj (e1.symm.trans hp)
    exact ⟨_, List.mem_of_getElem? e2, by rw [h.tc]; exact e⟩
  · rintro ⟨t', ht, e⟩
    obtain ⟨q, hq⟩ := List.getElem?_of_mem ht
    have hq' : q < w.n := by rw [← h.n, ← lr']; exact (List.getElem?_eq_some_iff.mp hq).1
    obtain ⟨p1, p2⟩ := h.p2 q hq'
    obtain ⟨u, e1, e2⟩ := l.2.2 _ p1
    rw [p2] at e2
    obtain rfl := Option.some.inj (e2.symm.trans hq)
    exact ⟨u, List.mem_of_getElem? e1, by rw [h.tc] at e; exact e⟩
end
end W
namespace W
open HTr PySem L2
theorem rel_len {α β : Type} {rows : List α} {rows' : List β} (nd : rows.Nodup) (L : α → β → Prop) (tot : ∀ a ∈ rows, ∃ b ∈ rows', L a b) (inj : ∀ a b c, L a c → L b c → a = b) : rows.length ≤ rows'.length := by
  classical
  by_cases e : rows = []
  · rw [e]; exact Nat.zero_le _
  obtain ⟨a0, h0⟩ := List.exists_mem_of_ne_nil _ e
  obtain ⟨b0, _, _⟩ := tot a0 h0
  have ex : ∀ a, ∃ b, a ∈ rows → b ∈ rows' ∧ L a b := fun a => by
    by_cases h : a ∈ rows
    · obtain ⟨b, h1, h2⟩ := tot a h
      exact ⟨b, fun _ => ⟨h1, h2⟩⟩
    · exact ⟨b0, fun z => absurd z h⟩
  obtain ⟨f, hf⟩ : ∃ f : α → β, ∀ a, a ∈ rows → f a ∈ rows' ∧ L a (f a) := ⟨fun a => (ex a).choose, fun a => (ex a).choose_spec⟩
  have := nodup_len (xs := rows.map f) (ys := rows') (by
    rw [List.Nodup, List.pairwise_map]
    exact nd.imp_of_mem fun {p q} hp hq ne e => ne (inj _ _ _ (hf p hp).2 (by rw [e]; exact (hf q hq).2))) fun y hy => by
    obtain ⟨a, ha, rfl⟩ := List.mem_map.mp hy
    exact (hf a ha).1
  simpa using this
theorem LikeT.len {w w' : Wb} {f g : Nat → Nat} {τ : Tie → Tie} (h : LikeT w w' f g τ) (ok : w.ok) (ok' : w'.ok) : (w'.rows w'.n).length = (w.rows w.n).length := by
  have h1 := rel_len (rows_nd ok w.n) (LikeR w w' f τ) h.tot h.inj
  have h2 := rel_len (rows_nd ok' w'.n) (fun b a => LikeR w w' f τ a b) h.sur fun a b c l1 l2 => h.fn c a b l1 l2
  omega
theorem Turned.tree {w w' : Wb} (h : Turned w w') (ok : w.ok) (t : w.Tree) : w'.Tree := by
  obtain ⟨t1, t2, t3⟩ := t
  have key : ∀ y, Conn w.as 0 y → Conn w'.as 0 y := fun y c => by
    induction c with
    | refl => exact .refl
    | step _ a ih =>
      obtain ⟨b, hb, e⟩ := a
      exact .step ih ⟨flA b, (h.sA.mem _).mpr (List.mem_map.mpr ⟨b, hb, rfl⟩), e.symm.imp And.symm And.symm⟩
  refine ⟨by rw [h.n]; exact t1, ?_, fun x hx => key x (t3 x (by rw [← h.n]; exact hx))⟩
  have l1 := nodup_len h.sA.nd fun y hy => (h.sA.mem y).mp hy
  have l2 := nodup_len (flA_nd ok.asr.nd) fun y hy => (h.sA.mem y).mpr hy
  rw [List.length_map] at l1 l2
  rw [h.n]
  omega
end W
namespace W
open PySem L2 HTr
end W
namespace W
open HTr PySem L2
def ptsOf (n : Nat) (r : List Nat) : List Nat := (List.range n).filter fun x => decide (x ∈ r)
theorem mem_ptsOf {n x : Nat} {r : List Nat} : x ∈ ptsOf n r ↔ x < n ∧ x ∈ r := by
  unfold ptsOf
  rw [List.mem_filter, List.mem_range, decide_eq_true_eq]
theorem ptsOf_rise (n : Nat) (r : List Nat) : (ptsOf n r).Pairwise (· < ·) := List.Pairwise.filter _ List.pairwise_lt_range
structure LeastIm (w : Wb) (r : List Nat) : Prop where
  map : MapN w w r
  least : ∀ m, MapN w w m → ∀ us : List Nat, (∀ x ∈ m, x ∈ us) → (ptsOf w.n r).length ≤ us.length
def itN (f : Nat → Nat) : Nat → Nat → Nat
  | 0, x => x
  | k + 1, x => f (itN f k x)
def powL (r : List Nat) (n k : Nat) : List Nat := (List.range n).map fun i => itN (fun x => r.getD x 0) k i
theorem powL_one {w : Wb} {r : List Nat} (h : MapN w w r) : powL r w.n 1 = r := by
  refine List.ext_getElem (by simp [powL, h.len]) fun i h1 h2 => ?_
  simp only [powL, List.getElem_map, List.getElem_range]
  show r.getD i 0 = _
  rw [List.getD_eq_getElem?_getD, List.getElem?_eq_getElem h2]
  rfl
theorem powL_led (r : List Nat) (n k : Nat) : ledN (powL r n k) r = powL r n (k + 1) := by
  unfold ledN powL
  rw [List.map_map]
  rfl
theorem powL_map {w : Wb} (ok : w.ok) {r : List Nat} (h : MapN w w r) : ∀ k, MapN w w (powL r w.n (k + 1))
  | 0 => by rw [powL_one h]; exact h
  | k + 1 => by
    rw [← powL_led]
    exact (powL_map ok h k).led ok h
theorem powL_getD {r : List Nat} {n k i : Nat} (hi : i < n) : (powL r n k).getD i 0 = itN (fun x => r.getD x 0) k i := by
  simp [powL, List.getD_eq_getElem?_getD, hi]
structure LeastP (w : Wb) (P im : List Nat) : Prop where
  map : MapN w w im
  rise : P.Pairwise (· < ·)
  lt : ∀ p ∈ P, p < w.n
  into : ∀ x ∈ im, x ∈ P
  fix : ∀ p ∈ P, im.getD p 0 = p
  least : ∀ m, MapN w w m → ∀ us : List Nat, (∀ x ∈ m, x ∈ us) → P.length ≤ us.length
theorem LeastIm.part {w : Wb} (ok : w.ok) {r : List Nat} (h : LeastIm w r) {k : Nat} (fx : ∀ p ∈ ptsOf w.n r, (powL r w.n (k + 1)).getD p 0 = p) : LeastP w (ptsOf w.n r) (powL r w.n (k + 1)) := by
  refine ⟨powL_map ok h.map k, ptsOf_rise _ _, fun p hp => (mem_ptsOf.mp hp).1, fun x hx => ?_, fx, h.least⟩
  obtain ⟨i, hi, rfl⟩ := List.mem_map.mp hx
  have hi := List.mem_range.mp hi
  show r.getD (itN _ k i) 0 ∈ _
  have ht : itN (fun x => r.getD x 0) k i < w.n := by
    cases k with
    | zero => exact hi
    | succ k =>
      have m := (powL_map ok h.map k).lt ((powL r w.n (k + 1)).getD i 0) (by
        have hl : i < (powL r w.n (k + 1)).length := by simp [powL, hi]
        rw [List.getD_eq_getElem?_getD, List.getElem?_eq_getElem hl]
        exact List.getElem_mem hl)
      rwa [powL_getD hi] at m
  have hl : itN (fun x => r.getD x 0) k i < r.length := by rw [h.map.len]; exact ht
  have : r.getD (itN (fun x => r.getD x 0) k i) 0 ∈ r := by
    rw [List.getD_eq_getElem?_getD, List.getElem?_eq_getElem hl]
    exact List.getElem_mem hl
  exact mem_ptsOf.mpr ⟨h.map.lt _ this, this⟩
theorem LeastP.nd {w : Wb} {P im : List Nat} (h : LeastP w P im) : P.Nodup := h.rise.imp fun lt e => by omega
def Stiff (c : Wb) : Prop := ∀ m, MapN c c m → m.Nodup
theorem LeastP.all {c : Wb} {P im : List Nat} (h : LeastP c P im) (s : Stiff c) : P.length = c.n := by
  have a := nodup_len (ys := P) (s _ h.map) h.into
  have b := nodup_len (ys := List.range c.n) h.nd fun p hp => List.mem_range.mpr (h.lt p hp)
  rw [h.map.len] at a
  rw [List.length_range] at b
  omega
end W
namespace W
open PySem L2 HTr
end W
namespace W
open PySem L2 HTr
end W
namespace W
open PySem L2 HTr
end W
namespace W
open PySem L2 HTr
def Within (w : Wb) (Ls : List (List Nat)) (m : List Nat) : Prop := ∀ q, q < w.n → m.getD q 0 ∈ Ls.getD q []
theorem getD_setL {Ls : List (List Nat)} {p q : Nat} {l : List Nat} (hp : p < Ls.length) : (Ls.set p l).getD q [] = if q = p then l else Ls.getD q [] := by
  by_cases c : q = p
  · subst c
    rw [if_pos rfl, List.getD_eq_getElem?_getD, List.getElem?_set_self hp]
    rfl
  · rw [if_neg c, List.getD_eq_getElem?_getD, List.getElem?_set_ne (fun h => c h.symm), ← List.getD_eq_getElem?_getD]
structure Shr (w g : Wb) (Ls Ls' : List (List Nat)) : Prop where
  kl : KL w g Ls'
  sub : ∀ q, ∀ v ∈ Ls'.getD q [], v ∈ Ls.getD q []
  len : ∀ q, (Ls'.getD q []).length ≤ (Ls.getD q []).length
  keep : ∀ m, MapN w g m → Within w Ls m → Within w Ls' m
theorem Shr.refl {w g : Wb} {Ls : List (List Nat)} (h : KL w g Ls) : Shr w g Ls Ls := ⟨h, fun _ _ h => h, fun _ => Nat.le_refl _, fun _ _ h => h⟩
theorem Shr.trans {w g : Wb} {A B C : List (List Nat)} (h : Shr w g A B) (k : Shr w g B C) : Shr w g A C :=
  ⟨k.kl, fun q v hv => h.sub q v (k.sub q v hv), fun q => Nat.le_trans (k.len q) (h.len q), fun m hm hw => k.keep m hm (h.keep m hm hw)⟩
theorem Shr.step {w g : Wb} {Ls : List (List Nat)} (kl : KL w g Ls) {p : Nat} (hp : p < w.n) (f : Nat → Bool) (hf : ∀ m, MapN w g m → Within w Ls m → f (m.getD p 0) = true) : Shr w g Ls (Ls.set p ((Ls.getD p []).filter f)) := by
  have pl : p < Ls.length := by rw [kl.len]; exact hp
  have at_ := kl.at hp
  refine ⟨⟨by rw [List.length_set]; exact kl.len, fun l hl => ?_⟩, fun q v hv => ?_, fun q => ?_, fun m hm hw q hq => ?_⟩
  · rcases List.mem_or_eq_of_mem_set hl with h | h
    · exact kl.ok l h
    · rw [h]
      exact ⟨at_.1.filter _, fun v hv => at_.2 v (List.mem_filter.mp hv).1⟩
  · rw [getD_setL pl] at hv
    by_cases c : q = p
    · rw [if_pos c] at hv
      rw [c]
      exact (List.mem_filter.mp hv).1
    · rw [if_neg c] at hv
      exact hv
  · rw [getD_setL pl]
    by_cases c : q = p
    · rw [if_pos c, c]
      exact List.length_filter_le _ _
    · rw [if_neg c]
      exact Nat.le_refl _
  · rw [getD_setL pl]
    by_cases c : q = p
    · rw [if_pos c, c]
      exact List.mem_filter.mpr ⟨hw p hp, hf m hm hw⟩
    · rw [if_neg c]
      exact hw q hq
def MixL (es : List L) (Ls : List (List Nat)) : Prop := es.length = Ls.length ∧ ∀ i e, es[i]? = some e → e = numsL (Ls.getD i []) ∨ e = .fz (natsT (Ls.getD i []))
theorem MixL.own (Ls : List (List Nat)) : MixL (Ls.map numsL) Ls := ⟨by simp, fun i e h => by
  rw [List.getElem?_map] at h
  obtain ⟨l, hl, rfl⟩ := Option.map_eq_some_iff.mp h
  rw [List.getD_eq_getElem?_getD, hl]
  exact .inl rfl⟩
theorem MixL.set {es : List L} {Ls : List (List Nat)} (h : MixL es Ls) {p : Nat} {e : L} {l : List Nat} (he : e = numsL l ∨ e = .fz (natsT l)) : MixL (es.set p e) (Ls.set p l) := by
  refine ⟨by rw [List.length_set, List.length_set]; exact h.1, fun i x hx => ?_⟩
  rw [List.getElem?_set] at hx
  by_cases c : p = i
  · subst c
    rw [if_pos rfl] at hx
    by_cases hl : p < es.length
    · rw [if_pos hl] at hx
      cases hx
      rw [getD_setL (by rw [← h.1]; exact hl), if_pos rfl]
      exact he
    · rw [if_neg hl] at hx
      cases hx
  · rw [if_neg c] at hx
    have il : i < Ls.length := by rw [← h.1]; exact (List.getElem?_eq_some_iff.mp hx).1
    rw [List.getD_eq_getElem?_getD, List.getElem?_set_ne c, ← List.getD_eq_getElem?_getD]
    exact h.2 i x hx
end W
namespace W
open PySem L2 HTr
theorem cut_fromN0 {α : Type} (xs : List α) (n : Nat) : cut xs (some (n : Int)) none = xs.drop n := by
  unfold cut
  rw [HT.sIx_none, HT.sIx_nat]
  by_cases c : n ≤ xs.length
  · rw [Nat.min_eq_left c]
    exact List.take_of_length_le (by rw [List.length_drop]; omega)
  · rw [Nat.min_eq_right (by omega), List.drop_of_length_le (Nat.le_refl _), List.drop_of_length_le (by omega), List.take_nil]
theorem KL.one {w g : Wb} {Ls : List (List Nat)} (kl : KL w g Ls) {p v : Nat} (hp : p < w.n) (hv : v ∈ Ls.getD p []) : KL w g (Ls.set p [v]) := by
  refine ⟨by rw [List.length_set]; exact kl.len, fun l hl => ?_⟩
  rcases List.mem_or_eq_of_mem_set hl with h | h
  · exact kl.ok l h
  · rw [h]
    exact ⟨by simp, fun u hu => by rw [List.mem_singleton.mp hu]; exact (kl.at hp).2 v hv⟩
end W
namespace W
open PySem L2 HTr
structure PInv (w : Wb) (ps : List (List Nat)) (K : List Nat) : Prop where
  rise : ∀ P ∈ ps, P.Pairwise (· < ·)
  lt : ∀ P ∈ ps, ∀ x ∈ P, x < w.n
  cl : ∀ P ∈ ps, ∀ x ∈ P, ∀ y, Adj w.as x y → y ∈ P
  mem : ∀ x, x ∈ K ↔ ∃ P ∈ ps, x ∈ P
  nd : K.Nodup
  len : ps.length ≤ K.length
theorem PInv.klt {w : Wb} {ps : List (List Nat)} {K : List Nat} (h : PInv w ps K) {x : Nat} (hx : x ∈ K) : x < w.n := by
  obtain ⟨P, hP, hxP⟩ := (h.mem x).mp hx
  exact h.lt P hP x hxP
structure BInv (w : Wb) (K line : List Nat) (at_ : Nat) : Prop where
  nd : (K ++ line).Nodup
  lt : ∀ x ∈ line, x < w.n
  le : at_ ≤ line.length
  cl : ∀ x ∈ line.take at_, ∀ y, Adj w.as x y → y ∈ line
theorem BInv.len {w : Wb} {ps : List (List Nat)} {K line : List Nat} {a : Nat} (h : PInv w ps K) (b : BInv w K line a) : (K ++ line).length ≤ w.n := by
  have := nodup_len b.nd (ys := List.range w.n) fun x hx => List.mem_range.mpr (by
    rcases List.mem_append.mp hx with hx | hx
    · exact h.klt hx
    · exact b.lt x hx)
  simpa using this
end W
namespace W
open PySem L2 HTr
end W
namespace W
open PySem L2 HTr
end W
namespace W
open PySem L2 HTr
end W
namespace W
open PySem L2 HTr
end W
namespace W
open PySem L2 HTr
end W
namespace W
open PySem L2 HTr
end W
namespace W
open PySem L2 HTr
end W
namespace W
open PySem L2 HTr
end W
namespace W
open PySem L2 HTr
abbrev N_Web_str : List Str := ["self", "words", "colour", "one", "other", "mark", "point"]
abbrev ps_Web_str : List Str := ["self"]
def m_Web_str (CWeb : Nat) : MS :=
  (sSeq (sAsg (rOp fAdd (rLst (aCons (rCa fStr (aCons (rFld CWeb "many" (rVar 0)) aNil)) aNil)) (rCompS (rFld CWeb "arrow_list" (rVar 0)) (gTupT (gsCons (gSlot 2) (gsCons (gSlot 3) (gsCons (gSlot 4) gsNil))) 3) cYes (rJs [(rFmt (rVar 3)), (rFmt (rVar 2)), (rFmt (rVar 4))]) [2, 3, 4])) (gSlot 1))
  (sRet (rJoin (rC (.str " ")) (rOp fAdd (rVar 1) (rCompS (rFld CWeb "mark_list" (rVar 0)) (gTupT (gsCons (gSlot 5) (gsCons (gSlot 6) gsNil)) 2) cYes (rJs [(rFmt (rVar 5)), (rFmt (rVar 6))]) [5, 6])))))
end W
namespace W
open PySem L2 HTr
theorem str_S (x : Str) : x = SX.S x.cps.toList := (SX.S_tl x).symm
theorem len_cps (x : Str) : x.length = x.cps.toList.length := by simp [Str.length]
theorem occ_one (a c : Str) (h : c.length = 1) : (!(Builtin.Str.occurrences a c 0 a.length 1).isEmpty) = decide (c.cps.toList.headD 0 ∈ a.cps.toList) := by
  have e := SX.in_one a.cps.toList (c.cps.toList.headD 0)
  have hl : c.cps.toList.length = 1 := (len_cps c).symm.trans h
  obtain ⟨x, hx⟩ := List.length_eq_one_iff.mp hl
  rw [hx] at e ⊢
  have ec : c = SX.S [x] := by rw [← hx]
  rw [ec]
  rw [SX.S_tl] at e
  exact e
theorem cols_iff (c : Str) : c ∈ cols ↔ c.length = 1 ∧ c.cps.toList.headD 0 ∈ [97, 98, 99] := by
  constructor
  · intro h
    simp only [cols, List.mem_cons, List.not_mem_nil, or_false] at h
    rcases h with rfl | rfl | rfl <;> exact ⟨by decide +kernel, by decide +kernel⟩
  · rintro ⟨h1, h2⟩
    have hl : c.cps.toList.length = 1 := (len_cps c).symm.trans h1
    obtain ⟨x, hx⟩ := List.length_eq_one_iff.mp hl
    rw [hx] at h2
    have ec : c = SX.S [x] := by rw [← hx]
    rw [ec]
    simp at h2
    rcases h2 with rfl | rfl | rfl <;> decide +kernel
theorem mrks_iff (c : Str) : c ∈ mrks ↔ c.length = 1 ∧ c.cps.toList.headD 0 ∈ [112, 113, 114] := by
  constructor
  · intro h
    simp only [mrks, List.mem_cons, List.not_mem_nil, or_false] at h
    rcases h with rfl | rfl | rfl <;> exact ⟨by decide +kernel, by decide +kernel⟩
  · rintro ⟨h1, h2⟩
    have hl : c.cps.toList.length = 1 := (len_cps c).symm.trans h1
    obtain ⟨x, hx⟩ := List.length_eq_one_iff.mp hl
    rw [hx] at h2
    have ec : c = SX.S [x] := by rw [← hx]
    rw [ec]
    simp at h2
    rcases h2 with rfl | rfl | rfl <;> decide +kernel
def spColG : SpT := fun ls G => ∃ c : Str, ls = [.fz (.str c)] ∧ c.length ≤ sizeLine ∧ G (.fz (.bl (decide (c ∈ cols)))) []
def spMrkG : SpT := fun ls G => ∃ c : Str, ls = [.fz (.str c)] ∧ c.length ≤ sizeLine ∧ G (.fz (.bl (decide (c ∈ mrks)))) []
theorem abc_cps : ("abc" : Str).cps.toList = [97, 98, 99] := by decide +kernel
theorem pqr_cps : ("pqr" : Str).cps.toList = [112, 113, 114] := by decide +kernel
theorem vc_colG : ∀ ls G, spColG ls G → m_is_colour (endOf ls G) (start0 N_is_colour.length ls) := by
  rintro ls G ⟨c, rfl, hc, hG⟩
  by_cases h : c.length = 1
  · have f := occ_one "abc" c h
    rw [abc_cps] at f
    have e : decide (c ∈ cols) = !(Builtin.Str.occurrences "abc" c 0 ("abc" : Str).length 1).isEmpty := by
      rw [f]; exact decide_eq_decide.mpr ⟨fun z => ((cols_iff c).mp z).2, fun z => (cols_iff c).mpr ⟨h, z⟩⟩
    rw [e] at hG
    simp [m_is_colour, h, -List.map_take, -List.map_drop, cut_map, atI_lit, ixN_lit, fAdd, fI, fI0, sSeq, sIf, sSet, sIx, sRetV, sRet, sRetN, sNext, sDrop, sAsg, tsAnd, tsOr, tsNot, tsV, rOp, rVar, rC, HTr.rIx, ixL, start0, fEq, eqAtom, strip_pin, strip_at, strip_non, strip_bl, strip_int, strip_str, strip_ftup, strip_flst, strip_fdct, strip_fobj, strip_box, strip_scr, strip_tup, strip_lst, strip_dct, strip_obj, L.tree, L.trees, L.isFz, rCa, fLen, aCons, aNil, fCmp, pVar, endOf, backs, rAndV, rOrV, rNotV, rIf, rChain, rLst, rTup, mkTup, fInStr, fInSeq, fIsN, T.isNon, gSlot, gTupT, gsCons, gsNil, rSl, oNone, oSome, fSl, itemsF_fz, itemsF_fzc, trees_fzc, itemsF_lst, itemsF_tup, itemsF_str, itemsF_scr, itemsFT_tup, itemsFT_lst, itemsFT_str, itemsFT_scr, cut_to, frz_map, frz_cons, frz_nil, rIs, T.ty?, tyIs, rFld, look]
    exact ⟨by decide, by simpa using hG⟩
  · have e : decide (c ∈ cols) = false := decide_eq_false fun z => h ((cols_iff c).mp z).1
    rw [e] at hG
    have h2 : ¬ ((c.length : Int) = 1) := by omega
    simp [m_is_colour, h2, -List.map_take, -List.map_drop, cut_map, atI_lit, ixN_lit, fAdd, fI, fI0, sSeq, sIf, sSet, sIx, sRetV, sRet, sRetN, sNext, sDrop, sAsg, tsAnd, tsOr, tsNot, tsV, rOp, rVar, rC, HTr.rIx, ixL, start0, fEq, eqAtom, strip_pin, strip_at, strip_non, strip_bl, strip_int, strip_str, strip_ftup, strip_flst, strip_fdct, strip_fobj, strip_box, strip_scr, strip_tup, strip_lst, strip_dct, strip_obj, L.tree, L.trees, L.isFz, rCa, fLen, aCons, aNil, fCmp, pVar, endOf, backs, rAndV, rOrV, rNotV, rIf, rChain, rLst, rTup, mkTup, fInStr, fInSeq, fIsN, T.isNon, gSlot, gTupT, gsCons, gsNil, rSl, oNone, oSome, fSl, itemsF_fz, itemsF_fzc, trees_fzc, itemsF_lst, itemsF_tup, itemsF_str, itemsF_scr, itemsFT_tup, itemsFT_lst, itemsFT_str, itemsFT_scr, cut_to, frz_map, frz_cons, frz_nil, rIs, T.ty?, tyIs, rFld, look]
    exact ⟨hc, hG⟩
theorem vc_mrkG : ∀ ls G, spMrkG ls G → m_is_mark (endOf ls G) (start0 N_is_mark.length ls) := by
  rintro ls G ⟨c, rfl, hc, hG⟩
  by_cases h : c.length = 1
  · have f := occ_one "pqr" c h
    rw [pqr_cps] at f
    have e : decide (c ∈ mrks) = !(Builtin.Str.occurrences "pqr" c 0 ("pqr" : Str).length 1).isEmpty := by
      rw [f]; exact decide_eq_decide.mpr ⟨fun z => ((mrks_iff c).mp z).2, fun z => (mrks_iff c).mpr ⟨h, z⟩⟩
    rw [e] at hG
    simp [m_is_mark, h, -List.map_take, -List.map_drop, cut_map, atI_lit, ixN_lit, fAdd, fI, fI0, sSeq, sIf, sSet, sIx, sRetV, sRet, sRetN, sNext, sDrop, sAsg, tsAnd, tsOr, tsNot, tsV, rOp, rVar, rC, HTr.rIx, ixL, start0, fEq, eqAtom, strip_pin, strip_at, strip_non, strip_bl, strip_int, strip_str, strip_ftup, strip_flst, strip_fdct, strip_fobj, strip_box, strip_scr, strip_tup, strip_lst, strip_dct, strip_obj, L.tree, L.trees, L.isFz, rCa, fLen, aCons, aNil, fCmp, pVar, endOf, backs, rAndV, rOrV, rNotV, rIf, rChain, rLst, rTup, mkTup, fInStr, fInSeq, fIsN, T.isNon, gSlot, gTupT, gsCons, gsNil, rSl, oNone, oSome, fSl, itemsF_fz, itemsF_fzc, trees_fzc, itemsF_lst, itemsF_tup, itemsF_str, itemsF_scr, itemsFT_tup, itemsFT_lst, itemsFT_str, itemsFT_scr, cut_to, frz_map, frz_cons, frz_nil, rIs, T.ty?, tyIs, rFld, look]
    exact ⟨by decide, by simpa using hG⟩
  · have e : decide (c ∈ mrks) = false := decide_eq_false fun z => h ((mrks_iff c).mp z).1
    rw [e] at hG
    have h2 : ¬ ((c.length : Int) = 1) := by omega
    simp [m_is_mark, h2, -List.map_take, -List.map_drop, cut_map, atI_lit, ixN_lit, fAdd, fI, fI0, sSeq, sIf, sSet, sIx, sRetV, sRet, sRetN, sNext, sDrop, sAsg, tsAnd, tsOr, tsNot, tsV, rOp, rVar, rC, HTr.rIx, ixL, start0, fEq, eqAtom, strip_pin, strip_at, strip_non, strip_bl, strip_int, strip_str, strip_ftup, strip_flst, strip_fdct, strip_fobj, strip_box, strip_scr, strip_tup, strip_lst, strip_dct, strip_obj, L.tree, L.trees, L.isFz, rCa, fLen, aCons, aNil, fCmp, pVar, endOf, backs, rAndV, rOrV, rNotV, rIf, rChain, rLst, rTup, mkTup, fInStr, fInSeq, fIsN, T.isNon, gSlot, gTupT, gsCons, gsNil, rSl, oNone, oSome, fSl, itemsF_fz, itemsF_fzc, trees_fzc, itemsF_lst, itemsF_tup, itemsF_str, itemsF_scr, itemsFT_tup, itemsFT_lst, itemsFT_str, itemsFT_scr, cut_to, frz_map, frz_cons, frz_nil, rIs, T.ty?, tyIs, rFld, look]
    exact ⟨hc, hG⟩
theorem colG_weak : ∀ ls G, spCol ls G → spColG ls G := fun ls G ⟨c, hc, e, g⟩ => ⟨c, e, Nat.le_trans (Nat.le_of_eq ((cols_iff c).mp hc).1) (by decide), by rw [decide_eq_true hc]; exact g⟩
theorem mrkG_weak : ∀ ls G, spMrk ls G → spMrkG ls G := fun ls G ⟨c, hc, e, g⟩ => ⟨c, e, Nat.le_trans (Nat.le_of_eq ((mrks_iff c).mp hc).1) (by decide), by rw [decide_eq_true hc]; exact g⟩
end W
namespace W
open PySem L2 HTr
theorem one_cps (c : Nat) : (⟨#[c]⟩ : Str).cps.toList = [c] := rfl
theorem enumS (ws : List Str) : enumT (ws.map T.str) = (ws.zipIdx 0).map fun p => T.tup [.int p.2, .str p.1] := by
  unfold enumT
  rw [List.zipIdx_map, List.map_map]
  rfl
end W
namespace W
open PySem L2 HTr
def numS (n : Nat) : Str := Str.ofString (toString (n : Int))
theorem numS_eq (n : Nat) : Str.ofString (Int.repr (n : Int)) = numS n := rfl
def arwS (y : Arw) : Str := numS y.a ++ y.c ++ numS y.b
def mrkS (y : Mrk) : Str := y.c ++ numS y.a
def Wb.words (w : Wb) : List Str := numS w.n :: (w.as.map arwS ++ w.ms.map mrkS)
def Wb.text (w : Wb) : Str := Txt.join " " w.words
def spWebStr (C : Nat) : SpT := fun ls G => ∃ w t, ls = [.fz t] ∧ WebT C w t ∧ w.ok ∧ G (.fz (.str w.text)) []
theorem num_len {n : Nat} (h : n ≤ 81) : (numS n).length ≤ 2 := by
  have all : ∀ m, m < 82 → (numS m).length ≤ 2 := by decide +kernel
  exact all n (by omega)
theorem num_log {n : Nat} (h : n ≤ 81) : ((n : Int)).natAbs.log2 < 1920 := by
  have all : ∀ m : Nat, m < 82 → ((m : Int)).natAbs.log2 < 1920 := by decide +kernel
  exact all n (by omega)
theorem nil_app (x : Str) : Str.empty ++ x = x := by
  have e : Str.empty = SX.S [] := rfl
  rw [e, str_S x, SX.S_cat]
  rfl
theorem app_len (x y : Str) : (x ++ y).length = x.length + y.length := Str.length_append x y
theorem col_len1 {c : Str} (h : c ∈ cols) : c.length = 1 := ((cols_iff c).mp h).1
theorem mrk_len1 {c : Str} (h : c ∈ mrks) : c.length = 1 := ((mrks_iff c).mp h).1
theorem arwS_len {n : Nat} {y : Arw} (hn : n ≤ 81) (h : y.ok n) : (arwS y).length ≤ 5 := by
  obtain ⟨h1, h2, h3⟩ := h
  have := col_len1 h1
  have := num_len (n := y.a) (by omega)
  have := num_len (n := y.b) (by omega)
  unfold arwS
  rw [app_len, app_len]
  omega
theorem mrkS_len {n : Nat} {y : Mrk} (hn : n ≤ 81) (h : y.ok n) : (mrkS y).length ≤ 3 := by
  obtain ⟨h1, h2⟩ := h
  have := mrk_len1 h1
  have := num_len (n := y.a) (by omega)
  unfold mrkS
  rw [app_len]
  omega
theorem words_len {w : Wb} (ok : w.ok) : ∀ x ∈ w.words, x.length ≤ 5 := by
  intro x hx
  rcases List.mem_cons.mp hx with rfl | hx
  · exact Nat.le_trans (num_len ok.n81) (by decide)
  · rcases List.mem_append.mp hx with z | z
    · obtain ⟨y, hy, rfl⟩ := List.mem_map.mp z
      exact arwS_len ok.n81 (ok.aok y hy)
    · obtain ⟨y, hy, rfl⟩ := List.mem_map.mp z
      exact Nat.le_trans (mrkS_len ok.n81 (ok.mok y hy)) (by decide)
theorem sum_le_of {xs : List Str} {k : Nat} (h : ∀ x ∈ xs, x.length ≤ k) : (xs.map (·.length)).sum ≤ k * xs.length := by
  induction xs with
  | nil => simp
  | cons x xs ih =>
    have h1 := h x (by simp)
    have h2 := ih fun y hy => h y (by simp [hy])
    simp only [List.map_cons, List.sum_cons, List.length_cons, Nat.mul_succ]
    omega
theorem words_size {w : Wb} (ok : w.ok) : (w.words.map (·.length)).sum + w.words.length * (" " : Str).length ≤ 16777216 := by
  have h1 := sum_le_of (words_len ok)
  have h2 : w.words.length = 1 + (w.as.length + w.ms.length) := by simp [Wb.words]; omega
  have h3 := Wb.alen ok
  have h4 := Wb.mlen ok
  have h5 : (" " : Str).length = 1 := by decide
  rw [h5]
  omega
theorem strs_map {α : Type} (f : α → Str) (xs : List α) : xs.map (fun y => L.fz (T.str (f y))) = ((xs.map f).map T.str).map L.fz := by
  rw [List.map_map, List.map_map]; rfl
theorem itemsF_fzc' (ts : List T) : itemsF (L.lst (ts.map L.fz)) = some ts := by
  show (if (ts.map L.fz).all L.isFz = true then some (L.trees (ts.map L.fz)) else none) = some ts
  rw [if_pos (by simp [L.isFz]), L.trees_fz]
theorem vc_web_str (C : Nat) : ∀ ls G, spWebStr C ls G → m_Web_str C (endOf ls G) (start0 N_Web_str.length ls) := by
  rintro ls G ⟨w, t, rfl, ⟨k1, v1, k2, v2, rfl, _⟩, ok, hG⟩
  have hz : 20000 < sizeLine := by decide
  have h3 := Wb.alen ok
  have h4 := Wb.mlen ok
  have h9 := num_log ok.n81
  unfold m_Web_str
  refine seq_gen fun k1 hk1 => ?_
  replace hk1 := Hid.mk hk1
  simp [rCompS, wipeS, webNs, ofStr_inj, fStr, -List.map_take, -List.map_drop, cut_map, atI_lit, ixN_lit, fAdd, fI, fI0, sIf, sSet, sIx, sRetV, sRet, sRetN, sNext, sDrop, sAsg, tsAnd, tsOr, tsNot, tsV, rOp, rVar, rC, HTr.rIx, ixL, start0, fEq, eqAtom, strip_pin, strip_at, strip_non, strip_bl, strip_int, strip_str, strip_ftup, strip_flst, strip_fdct, strip_fobj, strip_box, strip_scr, strip_tup, strip_lst, strip_dct, strip_obj, L.tree, L.trees, L.isFz, rCa, fLen, aCons, aNil, fCmp, pVar, endOf, backs, rAndV, rOrV, rNotV, rIf, rChain, rLst, rTup, mkTup, fInStr, fInSeq, fIsN, T.isNon, gSlot, gTupT, gsCons, gsNil, rSl, oNone, oSome, fSl, itemsF_fz, itemsF_fzc, trees_fzc, itemsF_lst, itemsF_tup, itemsF_str, itemsF_scr, itemsFT_tup, itemsFT_lst, itemsFT_str, itemsFT_scr, cut_to, frz_map, frz_cons, frz_nil, rIs, T.ty?, tyIs, rFld, look]
  rw [numS_eq]
  have h9' : w.n.log2 < 1920 := by simpa using h9
  refine ⟨h9', by decide, ?_⟩
  refine compL_map (f := fun y => .fz (.str (arwS y))) (fun y hy X hX => ?_) (by simp; omega) ?_
  · obtain ⟨y1, y2, y3⟩ := ok.aok y hy
    have n81 := ok.n81
    have la := num_log (n := y.a) (by omega)
    have lb := num_log (n := y.b) (by omega)
    have ka := num_len (n := y.a) (by omega)
    have kb := num_len (n := y.b) (by omega)
    have kc := col_len1 y1
    simp [Arw.t, rJs, jParts, rFmt, -List.map_take, -List.map_drop, cut_map, atI_lit, ixN_lit, fAdd, fI, fI0, sIf, sSet, sIx, sRetV, sRet, sRetN, sNext, sDrop, sAsg, tsAnd, tsOr, tsNot, tsV, rOp, rVar, rC, HTr.rIx, ixL, start0, fEq, eqAtom, strip_pin, strip_at, strip_non, strip_bl, strip_int, strip_str, strip_ftup, strip_flst, strip_fdct, strip_fobj, strip_box, strip_scr, strip_tup, strip_lst, strip_dct, strip_obj, L.tree, L.trees, L.isFz, rCa, fLen, aCons, aNil, fCmp, pVar, endOf, backs, rAndV, rOrV, rNotV, rIf, rChain, rLst, rTup, mkTup, fInStr, fInSeq, fIsN, T.isNon, gSlot, gTupT, gsCons, gsNil, rSl, oNone, oSome, fSl, itemsF_fz, itemsF_fzc, trees_fzc, itemsF_lst, itemsF_tup, itemsF_str, itemsF_scr, itemsFT_tup, itemsFT_lst, itemsFT_str, itemsFT_scr, cut_to, frz_map, frz_cons, frz_nil, rIs, T.ty?, tyIs, rFld, look]
    rw [numS_eq, numS_eq, nil_app]
    have la' : y.a.log2 < 1920 := by simpa using la
    have lb' : y.b.log2 < 1920 := by simpa using lb
    refine ⟨la', by omega, by omega, by rw [app_len]; omega, lb', by rw [app_len, app_len]; omega, hX⟩
  rw [List.nil_append, strs_map]
  have i1 : itemsF (L.lst [L.fz (T.str (numS w.n))]) = some [T.str (numS w.n)] := rfl
  rw [i1, itemsF_fzc']
  dsimp only
  refine ⟨by simp; omega, hk1.h _ ?_⟩
  clear hk1 k1
  have eT : L.trees (List.map L.fz [T.str (numS w.n)] ++ List.map L.fz ((w.as.map arwS).map T.str)) = (numS w.n :: w.as.map arwS).map T.str := by
    rw [← List.map_append, L.trees_fz]; rfl
  rw [eT]
  simp [rCompS, wipeS, ofStr_inj, rJoin, -List.map_take, -List.map_drop, cut_map, atI_lit, ixN_lit, fAdd, fI, fI0, sIf, sSet, sIx, sRetV, sRet, sRetN, sNext, sDrop, sAsg, tsAnd, tsOr, tsNot, tsV, rOp, rVar, rC, HTr.rIx, ixL, start0, fEq, eqAtom, strip_pin, strip_at, strip_non, strip_bl, strip_int, strip_str, strip_ftup, strip_flst, strip_fdct, strip_fobj, strip_box, strip_scr, strip_tup, strip_lst, strip_dct, strip_obj, L.tree, L.trees, L.isFz, rCa, fLen, aCons, aNil, fCmp, pVar, endOf, backs, rAndV, rOrV, rNotV, rIf, rChain, rLst, rTup, mkTup, fInStr, fInSeq, fIsN, T.isNon, gSlot, gTupT, gsCons, gsNil, rSl, oNone, oSome, fSl, itemsF_fz, itemsF_fzc, trees_fzc, itemsF_lst, itemsF_tup, itemsF_str, itemsF_scr, itemsFT_tup, itemsFT_lst, itemsFT_str, itemsFT_scr, cut_to, frz_map, frz_cons, frz_nil, rIs, T.ty?, tyIs, rFld, look]
  refine compL_map (f := fun y => .fz (.str (mrkS y))) (fun y hy X hX => ?_) (by simp; omega) ?_
  · obtain ⟨y1, y2⟩ := ok.mok y hy
    have n81 := ok.n81
    have la := num_log (n := y.a) (by omega)
    have ka := num_len (n := y.a) (by omega)
    have kc := mrk_len1 y1
    simp [Mrk.t, rJs, jParts, rFmt, -List.map_take, -List.map_drop, cut_map, atI_lit, ixN_lit, fAdd, fI, fI0, sIf, sSet, sIx, sRetV, sRet, sRetN, sNext, sDrop, sAsg, tsAnd, tsOr, tsNot, tsV, rOp, rVar, rC, HTr.rIx, ixL, start0, fEq, eqAtom, strip_pin, strip_at, strip_non, strip_bl, strip_int, strip_str, strip_ftup, strip_flst, strip_fdct, strip_fobj, strip_box, strip_scr, strip_tup, strip_lst, strip_dct, strip_obj, L.tree, L.trees, L.isFz, rCa, fLen, aCons, aNil, fCmp, pVar, endOf, backs, rAndV, rOrV, rNotV, rIf, rChain, rLst, rTup, mkTup, fInStr, fInSeq, fIsN, T.isNon, gSlot, gTupT, gsCons, gsNil, rSl, oNone, oSome, fSl, itemsF_fz, itemsF_fzc, trees_fzc, itemsF_lst, itemsF_tup, itemsF_str, itemsF_scr, itemsFT_tup, itemsFT_lst, itemsFT_str, itemsFT_scr, cut_to, frz_map, frz_cons, frz_nil, rIs, T.ty?, tyIs, rFld, look]
    rw [numS_eq, nil_app]
    have la' : y.a.log2 < 1920 := by simpa using la
    refine ⟨by omega, by omega, la', by rw [app_len]; omega, hX⟩
  rw [List.nil_append, strs_map]
  rw [itemsF_fzc']
  dsimp only
  refine ⟨by simp; omega, w.words, ?_, words_size ok, hG⟩
  unfold seqItems
  show some (L.trees _) = _
  rw [← List.map_append, L.trees_fz]
  simp [Wb.words]
end W
namespace W
open PySem L2 HTr
theorem inTup {cs : List Str} {w : Str} : (∃ x, x ∈ cs.map T.str ∧ eqFl x (.str w) = true) ↔ w ∈ cs := by
  constructor
  · rintro ⟨x, hx, e⟩
    obtain ⟨c, hc, rfl⟩ := List.mem_map.mp hx
    have : c = w := by simpa [eqFl] using e
    exact this ▸ hc
  · intro h
    exact ⟨.str w, List.mem_map.mpr ⟨w, h, rfl⟩, by simp [eqFl]⟩
theorem flatStrs (cs : List Str) : ∀ x ∈ cs.map T.str, x.isFlat = true := by
  intro x hx
  obtain ⟨c, hc, rfl⟩ := List.mem_map.mp hx
  rfl
end W
namespace W
open PySem L2 HTr
def spl1 (c : Nat) : List Nat → List Nat → List (List Nat)
  | acc, [] => [acc]
  | acc, x :: r => if x = c then acc :: spl1 c [] r else spl1 c (acc ++ [x]) r
theorem pre_one (c x : Nat) (r : List Nat) : TL.pre [c] (x :: r) = decide (x = c) := by
  unfold TL.pre
  simp only [List.length_singleton, List.take_succ_cons, List.take_zero]
  by_cases h : x = c
  · subst h; simp
  · simp [h]
theorem spl_one (c : Nat) : ∀ (l acc : List Nat), TL.spl [c] 0 acc l = spl1 c acc l
  | [], acc => TL.spl_nil _ _ _
  | x :: r, acc => by
    unfold spl1
    by_cases h : x = c
    · rw [if_pos h, TL.spl_hit (by rw [pre_one, decide_eq_true h])]
      show acc :: TL.spl [c] 0 [] r = _
      rw [spl_one c r []]
    · rw [if_neg h, TL.spl_miss (by rw [pre_one, decide_eq_false h]), spl_one c r]
theorem split_one (x : Str) : Txt.split x " " = (spl1 32 [] x.cps.toList).map SX.S := by
  have e : (" " : Str) = SX.S [32] := by decide +kernel
  rw [e, str_S x, SX.split_S (by decide) (by decide), spl_one]
theorem spl1_len (c : Nat) : ∀ (l acc : List Nat), (spl1 c acc l).length ≤ l.length + 1 ∧ ∀ p ∈ spl1 c acc l, p.length ≤ acc.length + l.length
  | [], acc => by
    refine ⟨by simp [spl1], fun p hp => ?_⟩
    have : p = acc := by simpa [spl1] using hp
    subst this; simp
  | x :: r, acc => by
    unfold spl1
    split
    · obtain ⟨h1, h2⟩ := spl1_len c r []
      refine ⟨by simp; omega, fun p hp => ?_⟩
      rcases List.mem_cons.mp hp with rfl | hp
      · simp
      · have := h2 p hp
        simp at this ⊢; omega
    · obtain ⟨h1, h2⟩ := spl1_len c r (acc ++ [x])
      refine ⟨by simp; omega, fun p hp => ?_⟩
      have := h2 p hp
      simp at this ⊢; omega
theorem split_len (x : Str) : (Txt.split x " ").length ≤ x.length + 1 ∧ ∀ w ∈ Txt.split x " ", w.length ≤ x.length := by
  rw [split_one]
  obtain ⟨h1, h2⟩ := spl1_len 32 x.cps.toList []
  rw [len_cps]
  refine ⟨by simpa using h1, fun w hw => ?_⟩
  obtain ⟨p, hp, rfl⟩ := List.mem_map.mp hw
  rw [SX.S_len]
  simpa using h2 p hp
theorem join_len (sep : Str) (ws : List Str) : (Txt.join sep ws).length ≤ (ws.map (·.length)).sum + ws.length * sep.length := by
  show (Builtin.Str.glued sep ws).length ≤ _
  rw [StrLaws.glued_eq_join]
  exact StrLaws.join_length_le sep ws
theorem join_le {ws : List Str} {n k : Nat} (hn : ws.length ≤ n) (hk : ∀ w ∈ ws, w.length ≤ k) : (Txt.join " " ws).length ≤ k * n + n := by
  have h1 := join_len " " ws
  have h2 := sum_le_of hk
  have h3 : (" " : Str).length = 1 := by decide
  rw [h3] at h1
  have h4 : k * ws.length ≤ k * n := Nat.mul_le_mul_left k hn
  omega
end W
namespace W
open PySem L2 HTr
abbrev N_number_in : List Str := ["text", "sign"]
abbrev ps_number_in : List Str := ["text"]
def m_number_in : MS :=
  (sSeq (sIf (tsOr (tsV (rOp (fEq false) (rVar 0) (rC (.str "")))) (tsOr (tsV (rOp (fCmp fun i j => decide (j < i)) (rCa fLen (aCons (rVar 0) aNil)) (rC (.int 2)))) (tsNot (tsV (rCa (fBools fun bs => bs.all id) (aCons (rCompX (rVar 0) (gSlot 1) cYes (rOp (fInStr false) (rVar 1) (rC (.str "0123456789"))) [1]) aNil))))))
  (sRet (rC .non))
  sNext)
  (sRet (rIf (tsAnd (tsV (rOp (fEq true) (rVar 0) (rC (.str "0")))) (tsV (rOp (fEq false) (HTr.rIx (rVar 0) (rC (.int 0))) (rC (.str "0"))))) (rC .non) (rCa fIntS (aCons (rVar 0) aNil)))))
abbrev N_law_words : List Str := ["_law_m", "_law_words_here", "_law_hue_here", "_law_one_here", "_law_other", "_law_sign_here", "_law_point"]
abbrev ps_law_words : List Str := ["_law_m"]
def m_law_words : MS :=
  (sSeq (sAsg (rOp fAdd (rLst (aCons (rCa fStr (aCons (HTr.rIx (rVar 0) (rC (.int 0))) aNil)) aNil)) (rCompS (HTr.rIx (rVar 0) (rC (.int 1))) (gTupT (gsCons (gSlot 2) (gsCons (gSlot 3) (gsCons (gSlot 4) gsNil))) 3) cYes (rOp fAdd (rOp fAdd (rCa fStr (aCons (rVar 3) aNil)) (rVar 2)) (rCa fStr (aCons (rVar 4) aNil))) [2, 3, 4])) (gSlot 1))
  (sRet (rJoin (rC (.str " ")) (rOp fAdd (rVar 1) (rCompS (HTr.rIx (rVar 0) (rC (.int 2))) (gTupT (gsCons (gSlot 5) (gsCons (gSlot 6) gsNil)) 2) cYes (rOp fAdd (rVar 5) (rCa fStr (aCons (rVar 6) aNil))) [5, 6])))))
abbrev N_law_number_in : List Str := ["_law_word", "_law_sign_here"]
abbrev ps_law_number_in : List Str := ["_law_word"]
def m_law_number_in : MS :=
  (sSeq (sIf (tsOr (tsNot (tsV (rChain (fCmp fun i j => decide (i ≤ j)) (fCmp fun i j => decide (i ≤ j)) (rC (.int 1)) (rCa fLen (aCons (rVar 0) aNil)) (rC (.int 2))))) (tsNot (tsV (rCa (fBools fun bs => bs.all id) (aCons (rCompX (rVar 0) (gSlot 1) cYes (rOp (fInStr false) (rVar 1) (rC (.str "0123456789"))) [1]) aNil)))))
  (sRet (rC (.int 99)))
  sNext)
  (sRet (rIf (tsAnd (tsV (rOp (fEq false) (rCa fLen (aCons (rVar 0) aNil)) (rC (.int 2)))) (tsV (rOp (fEq false) (HTr.rIx (rVar 0) (rC (.int 0))) (rC (.str "0"))))) (rC (.int 99)) (rCa fIntS (aCons (rVar 0) aNil)))))
abbrev N_tie_in : List Str := ["word", "many", "at", "point", "one", "other"]
abbrev ps_tie_in : List Str := ["word", "many"]
def m_tie_in (sp_number_in : SpT) (sp_is_colour : SpT) : MS :=
  (sSeq (sIf (tsV (rOp (fInSeq false) (rSl (rVar 0) oNone (oSome (rC (.int 1)))) (rTup (aCons (rC (.str "p")) (aCons (rC (.str "q")) (aCons (rC (.str "r")) aNil))))))
  (sSeq (sAsg (rCallU sp_number_in [] (aCons (rSl (rVar 0) (oSome (rC (.int 1))) oNone) aNil)) (gSlot 3))
  (sRet (rIf (tsOr (tsV (rOp (fIsN false) (rVar 3) (rC .non))) (tsV (rOp (fCmp fun i j => decide (j ≤ i)) (rVar 3) (rVar 1)))) (rC .non) (rTup (aCons (rC (.int 1)) (aCons (HTr.rIx (rVar 0) (rC (.int 0))) (aCons (rVar 3) aNil)))))))
  sNext)
  (sSeq (sForR2 (aCons (rC (.int 1)) (aCons (rCa fMin2 (aCons (rC (.int 3)) (aCons (rOp (fI0 fun i j => i - j) (rCa fLen (aCons (rVar 0) aNil)) (rC (.int 1))) aNil))) aNil)) (gSlot 2)
  (sIf (tsV (rCallU sp_is_colour [] (aCons (HTr.rIx (rVar 0) (rVar 2)) aNil)))
  (sSeq (sPar 4 5 (aCons (rCallU sp_number_in [] (aCons (rSl (rVar 0) oNone (oSome (rVar 2))) aNil)) (aCons (rCallU sp_number_in [] (aCons (rSl (rVar 0) (oSome (rOp fAdd (rVar 2) (rC (.int 1)))) oNone) aNil)) aNil)))
  (sIf (tsAnd (tsV (rOp (fIsN true) (rVar 4) (rC .non))) (tsAnd (tsV (rOp (fIsN true) (rVar 5) (rC .non))) (tsAnd (tsV (rOp (fCmp fun i j => decide (i < j)) (rVar 4) (rVar 1))) (tsV (rOp (fCmp fun i j => decide (i < j)) (rVar 5) (rVar 1))))))
  (sRet (rTup (aCons (rC (.int 0)) (aCons (HTr.rIx (rVar 0) (rVar 2)) (aCons (rVar 4) (aCons (rVar 5) aNil))))))
  sNext))
  sNext))
  (sRet (rC .non))))
abbrev N_law_tie_in : List Str := ["_law_word", "_law_many", "_law_seats", "_law_at_here", "_law_one_here", "_law_other", "_law_point", "_law_good"]
abbrev ps_law_tie_in : List Str := ["_law_word", "_law_many"]
def m_law_tie_in (sp_law_number_in : SpT) : MS :=
  (sSeq (sIf (tsV (rOp (fInSeq false) (rSl (rVar 0) oNone (oSome (rC (.int 1)))) (rTup (aCons (rC (.str "p")) (aCons (rC (.str "q")) (aCons (rC (.str "r")) aNil))))))
  (sSeq (sAsg (rCallU sp_law_number_in [] (aCons (rSl (rVar 0) (oSome (rC (.int 1))) oNone) aNil)) (gSlot 6))
  (sSeq (sAsg (rOp (fCmp fun i j => decide (i < j)) (rVar 6) (rVar 1)) (gSlot 7))
  (sRet (rIf (tsV (rVar 7)) (rTup (aCons (rC (.int 1)) (aCons (HTr.rIx (rVar 0) (rC (.int 0))) (aCons (rVar 6) aNil)))) (rC .non)))))
  sNext)
  (sSeq (sAsg (rCompR1 (aCons (rCa fLen (aCons (rVar 0) aNil)) aNil) (gSlot 3) (tsV (rOp (fInStr false) (HTr.rIx (rVar 0) (rVar 3)) (rC (.str "abc")))) (rVar 3) [3]) (gSlot 2))
  (sSeq (sIf (tsV (rOp (fEq true) (rCa fLen (aCons (rVar 2) aNil)) (rC (.int 1))))
  (sRet (rC .non))
  sNext)
  (sSeq (sAsg (HTr.rIx (rVar 2) (rC (.int 0))) (gSlot 3))
  (sSeq (sAsg (rCallU sp_law_number_in [] (aCons (rSl (rVar 0) oNone (oSome (rVar 3))) aNil)) (gSlot 4))
  (sSeq (sAsg (rCallU sp_law_number_in [] (aCons (rSl (rVar 0) (oSome (rOp fAdd (rVar 3) (rC (.int 1)))) oNone) aNil)) (gSlot 5))
  (sRet (rIf (tsV (rOp (fCmp fun i j => decide (i < j)) (rCa fMax2 (aCons (rVar 4) (aCons (rVar 5) aNil))) (rVar 1))) (rTup (aCons (rC (.int 0)) (aCons (HTr.rIx (rVar 0) (rVar 3)) (aCons (rVar 4) (aCons (rVar 5) aNil))))) (rC .non)))))))))
abbrev N_law_wrong_word : List Str := ["_law_text", "_law_shelf", "_law_many", "_law_last", "_law_at_here", "_law_word", "_law_tie"]
abbrev ps_law_wrong_word : List Str := ["_law_text"]
def m_law_wrong_word (sp_law_number_in : SpT) (sp_law_tie_in : SpT) : MS :=
  (sSeq (sAsg (rSplit (rVar 0) (rC (.str " "))) (gSlot 1))
  (sSeq (sAsg (rCallU sp_law_number_in [] (aCons (HTr.rIx (rVar 1) (rC (.int 0))) aNil)) (gSlot 2))
  (sSeq (sIf (tsV (rOp (fCmp fun i j => decide (j < i)) (rVar 2) (rC (.int 81))))
  (sRet (rC (.int 0)))
  sNext)
  (sSeq (sAsg (rTup (aCons (rC (.int 0)) (aCons (rC (.str "")) aNil))) (gSlot 3))
  (sSeq (sForE (aCons (rSl (rVar 1) (oSome (rC (.int 1))) oNone) aNil) (gTupT (gsCons (gSlot 4) (gsCons (gSlot 5) gsNil)) 2)
  (sSeq (sAsg (rCallU sp_law_tie_in [] (aCons (rVar 5) (aCons (rVar 2) aNil))) (gSlot 6))
  (sSeq (sIf (tsOr (tsV (rOp (fIsN false) (rVar 6) (rC .non))) (tsV (rOp fLeM (rVar 6) (rVar 3))))
  (sRet (rOp fAdd (rVar 4) (rC (.int 1))))
  sNext)
  (sAsg (rVar 6) (gSlot 3)))))
  (sRet (rC .non)))))))
abbrev N_law_bent_words : List Str := ["_law_box_here", "_law_text", "_law_at_here", "_law_sign_here", "_law_shelf", "_law_spot", "_law_fork", "_law_odds", "_law_odd", "_law_tail", "_law_two"]
abbrev ps_law_bent_words : List Str := ["_law_box_here", "_law_text"]
def m_law_bent_words (sp_law_take : SpT) (sp_law_one : SpT) : MS :=
  (sSeq (sAsg (rCallU sp_law_take [] (aCons (rVar 0) (aCons (rOp fAdd (rCa fLen (aCons (rVar 1) aNil)) (rC (.int 1))) aNil))) (gSlot 2))
  (sSeq (sAsg (rCallU sp_law_one [] (aCons (rVar 0) (aCons (rLst (aCons (rC (.str "0")) (aCons (rC (.str "1")) (aCons (rC (.str "9")) (aCons (rC (.str "a")) (aCons (rC (.str "c")) (aCons (rC (.str "p")) (aCons (rC (.str "r")) (aCons (rC (.str " ")) (aCons (rC (.str "d")) (aCons (rC (.str "-")) aNil))))))))))) aNil))) (gSlot 3))
  (sSeq (sAsg (rSplit (rVar 1) (rC (.str " "))) (gSlot 4))
  (sSeq (sAsg (rCallU sp_law_take [] (aCons (rVar 0) (aCons (rCa fLen (aCons (rVar 4) aNil)) aNil))) (gSlot 5))
  (sSeq (sAsg (rCallU sp_law_take [] (aCons (rVar 0) (aCons (rC (.int 7)) aNil))) (gSlot 6))
  (sSeq (sIf (tsV (rOp (fCmp fun i j => decide (i < j)) (rVar 6) (rC (.int 3))))
  (sSeq (sAsg (rSl (rVar 1) (oSome (rOp fAdd (rVar 2) (rCa fInt (aCons (rOp (fCmp fun i j => decide (j < i)) (rVar 6) (rC (.int 0))) aNil)))) oNone) (gSlot 9))
  (sRet (rOp fAdd (rOp fAdd (rSl (rVar 1) oNone (oSome (rVar 2))) (rOp fMulS (rVar 3) (rCa fInt (aCons (rOp (fCmp fun i j => decide (i < j)) (rVar 6) (rC (.int 2))) aNil)))) (rVar 9))))
  sNext)
  (sSeq (sIf (tsV (rOp (fEq false) (rVar 6) (rC (.int 3))))
  (sRet (rJoin (rC (.str " ")) (rOp fAdd (rSl (rVar 4) oNone (oSome (rOp fAdd (rVar 5) (rC (.int 1))))) (rSl (rVar 4) (oSome (rVar 5)) oNone))))
  sNext)
  (sSeq (sIf (tsV (rOp (fEq false) (rVar 6) (rC (.int 4))))
  (sRet (rJoin (rC (.str " ")) (rOp fAdd (rSl (rVar 4) oNone (oSome (rVar 5))) (rSl (rVar 4) (oSome (rOp fAdd (rVar 5) (rC (.int 1)))) oNone))))
  sNext)
  (sSeq (sIf (tsV (rOp (fEq false) (rVar 6) (rC (.int 5))))
  (sSeq (sAsg (rStep (rSl (rVar 4) (oSome (rVar 5)) (oSome (rOp fAdd (rVar 5) (rC (.int 2))))) (rC (.int (-1)))) (gSlot 10))
  (sRet (rJoin (rC (.str " ")) (rOp fAdd (rOp fAdd (rSl (rVar 4) oNone (oSome (rVar 5))) (rVar 10)) (rSl (rVar 4) (oSome (rOp fAdd (rVar 5) (rC (.int 2)))) oNone)))))
  sNext)
  (sSeq (sAsg (rLst (aCons (rC (.str "")) (aCons (rC (.str "0a0")) (aCons (rC (.str "p0")) (aCons (rC (.str "0b00")) (aCons (rC (.str "00a0")) (aCons (rC (.str "0a")) (aCons (rC (.str "a0")) (aCons (rC (.str "0a0a0")) aNil))))))))) (gSlot 7))
  (sSeq (sAsg (rCallU sp_law_one [] (aCons (rVar 0) (aCons (rOp fAdd (rVar 7) (rLst (aCons (rC (.str "82")) (aCons (rC (.str "81")) (aCons (rC (.str "p")) (aCons (rC (.str "0p")) (aCons (rC (.str "100a1")) aNil))))))) aNil))) (gSlot 8))
  (sRet (rJoin (rC (.str " ")) (rOp fAdd (rOp fAdd (rSl (rVar 4) oNone (oSome (rVar 5))) (rLst (aCons (rVar 8) aNil))) (rSl (rVar 4) (oSome (rVar 5)) oNone)))))))))))))))
abbrev N_read_web_x : List Str := ["text", "many", "found", "arrows", "first", "at", "word", "rank", "words"]
abbrev ps_read_web_x : List Str := ["text"]
def m_read_web_x (sp_number_in : SpT) (sp_tie_in : SpT) (sp_Web_init : SpT) (CBadText : Nat) (CWeb : Nat) : MS :=
  (sSeq (sStarR 4 8 (rSplit (rVar 0) (rC (.str " "))))
  (sSeq (sAsg (rCallU sp_number_in [] (aCons (rVar 4) aNil)) (gSlot 1))
  (sSeq (sIf (tsOr (tsV (rOp (fIsN false) (rVar 1) (rC .non))) (tsV (rOp (fCmp fun i j => decide (j < i)) (rVar 1) (rC (.int 81)))))
  (sRaise CBadText "BadText" "at" (rC (.int 0)))
  sNext)
  (sSeq (sSet 2 (rLst aNil))
  (sSeq (sForE (aCons (rVar 8) aNil) (gTupT (gsCons (gSlot 5) (gsCons (gSlot 6) gsNil)) 2)
  (sSeq (sAsg (rCallU sp_tie_in [] (aCons (rVar 6) (aCons (rVar 1) aNil))) (gSlot 7))
  (sSeq (sIf (tsOr (tsV (rOp (fIsN false) (rVar 7) (rC .non))) (tsAnd (tsV (rOp (fEq true) (rVar 2) (rLst aNil))) (tsV (rOp fLeM (rVar 7) (HTr.rIx (rVar 2) (rC (.int (-1))))))))
  (sRaise CBadText "BadText" "at" (rOp fAdd (rVar 5) (rC (.int 1))))
  sNext)
  (sMut fAppend (pVar 2) (aCons (rVar 7) aNil)))))
  (sSeq (sAsg (rCompS (rVar 2) (gSlot 7) (tsV (rOp (fEq false) (HTr.rIx (rVar 7) (rC (.int 0))) (rC (.int 0)))) (rSl (rVar 7) (oSome (rC (.int 1))) oNone) [7]) (gSlot 3))
  (sRet (rMakeKT CWeb 1 2 sp_Web_init gt_Web_1_arrows_marks (aCons (rVar 1) aNil) (aCons (rVar 3) (aCons (rCompS (rVar 2) (gSlot 7) (tsV (rOp (fEq false) (HTr.rIx (rVar 7) (rC (.int 0))) (rC (.int 1)))) (rSl (rVar 7) (oSome (rC (.int 1))) oNone) [7]) aNil))))))))))
abbrev N_law_web_c : List Str := ["_law_box_here", "_law_low", "_law_high", "_law_many", "_law_crowd", "_law_arrows", "_law_marks", "_law_k"]
abbrev ps_law_web_c : List Str := ["_law_box_here", "_law_low", "_law_high"]
def m_law_web_c (sp_law_take : SpT) (sp_law_one : SpT) (sp_law_arrow : SpT) (sp_law_sign : SpT) (sp_law_unlike : SpT) : MS :=
  (sSeq (sSet 3 (rOp fAdd (rVar 1) (rCall sp_law_take [] (aCons (rVar 0) (aCons (rOp fAdd (rOp (fI0 fun i j => i - j) (rVar 2) (rVar 1)) (rC (.int 1))) aNil)))))
  (sSeq (sIf (tsV (rOp (fEq false) (rVar 3) (rC (.int 0))))
  (sRet (rTup (aCons (rC (.int 0)) (aCons (rLst aNil) (aCons (rLst aNil) aNil)))))
  sNext)
  (sSeq (sSet 4 (rCall sp_law_one [] (aCons (rVar 0) (aCons (rLst (aCons (rVar 3) (aCons (rVar 3) (aCons (rOp (fI CM fun i j => i * j) (rC (.int 2)) (rVar 3)) (aCons (rC (.int 3)) aNil))))) aNil))))
  (sSeq (sSet 5 (rCompR1 (aCons (rCall sp_law_take [] (aCons (rVar 0) (aCons (rOp fAdd (rVar 4) (rC (.int 1))) aNil))) aNil) (gSlot 7) cYes (rCall sp_law_arrow [] (aCons (rVar 0) (aCons (rVar 3) aNil))) [7]))
  (sSeq (sSet 6 (rCompR1 (aCons (rCall sp_law_one [] (aCons (rVar 0) (aCons (rLst (aCons (rC (.int 0)) (aCons (rC (.int 0)) (aCons (rC (.int 1)) (aCons (rC (.int 2)) (aCons (rVar 3) aNil)))))) aNil))) aNil) (gSlot 7) cYes (rTup (aCons (rCall sp_law_sign [] (aCons (rVar 0) aNil)) (aCons (rCall sp_law_take [] (aCons (rVar 0) (aCons (rVar 3) aNil))) aNil))) [7]))
  (sRet (rTup (aCons (rVar 3) (aCons (rCallT sp_law_unlike [] (aCons (rVar 5) aNil)) (aCons (rCallT sp_law_unlike [] (aCons (rVar 6) aNil)) aNil))))))))))
end W
namespace W
open PySem L2 HTr
def isDig (c : Nat) : Bool := decide (48 ≤ c ∧ c ≤ 57)
def dig2 : List (List Nat) := ((List.range 10).map fun x => [48 + x]) ++ (List.range 10).flatMap fun x => (List.range 10).map fun y => [48 + x, 48 + y]
def numIn (a : List Nat) : Option Nat := if a = [] ∨ 2 < a.length ∨ a.all isDig = false then none else if a ≠ [48] ∧ a.head? = some 48 then none else some (NumText.digitsVal a)
theorem isDig_ex {c : Nat} (h : isDig c = true) : ∃ x, x < 10 ∧ c = 48 + x := by
  have := of_decide_eq_true h
  exact ⟨c - 48, by omega, by omega⟩
theorem dig2_of {a : List Nat} (h1 : a ≠ []) (h2 : a.length ≤ 2) (h3 : a.all isDig = true) : a ∈ dig2 := by
  match a, h1, h2 with
  | [c], _, _ =>
    obtain ⟨x, hx, e⟩ := isDig_ex (by simpa using h3)
    subst e
    exact List.mem_append_left _ (List.mem_map.mpr ⟨x, by simpa using hx, rfl⟩)
  | [c, d], _, _ =>
    have h4 : isDig c = true ∧ isDig d = true := by simpa using h3
    obtain ⟨x, hx, e⟩ := isDig_ex h4.1
    obtain ⟨y, hy, e'⟩ := isDig_ex h4.2
    subst e e'
    exact List.mem_append_right _ (List.mem_flatMap.mpr ⟨x, by simpa using hx, List.mem_map.mpr ⟨y, by simpa using hy, rfl⟩⟩)
theorem dig2_facts : ∀ a ∈ dig2, NumText.digitsVal a < 100 ∧ (a = [48] ∨ a.head? ≠ some 48 → SX.S a = numS (NumText.digitsVal a)) := by decide +kernel
theorem numIn_some {a : List Nat} {n : Nat} (h : numIn a = some n) : a ∈ dig2 ∧ SX.S a = numS n ∧ n < 100 ∧ a ≠ [] ∧ a.length ≤ 2 ∧ a.all isDig = true ∧ n = NumText.digitsVal a := by
  unfold numIn at h
  split at h
  · cases h
  · rename_i h1
    split at h
    · cases h
    · rename_i h2
      have e : NumText.digitsVal a = n := Option.some.inj h
      have n1 : a ≠ [] := fun z => h1 (.inl z)
      have n2 : a.length ≤ 2 := Nat.le_of_not_lt fun z => h1 (.inr (.inl z))
      have n3 : a.all isDig = true := by
        cases q : a.all isDig with
        | true => rfl
        | false => exact absurd (.inr (.inr q)) h1
      have m := dig2_of n1 n2 n3
      obtain ⟨f1, f2⟩ := dig2_facts a m
      subst e
      refine ⟨m, f2 ?_, f1, n1, n2, n3, rfl⟩
      by_cases q : a = [48]
      · exact .inl q
      · exact .inr fun z => h2 ⟨q, z⟩
theorem fig_cps : ("0123456789" : Str).cps.toList = [48, 49, 50, 51, 52, 53, 54, 55, 56, 57] := by decide +kernel
theorem fig_in (c : Nat) : (!(Builtin.Str.occurrences "0123456789" ⟨#[c]⟩ 0 ("0123456789" : Str).length 1).isEmpty) = isDig c := by
  have oc := occ_one "0123456789" ⟨#[c]⟩ rfl
  rw [fig_cps] at oc
  refine oc.trans (decide_eq_decide.mpr ?_)
  show c ∈ [48, 49, 50, 51, 52, 53, 54, 55, 56, 57] ↔ _
  simp
  omega
def optN : Option Nat → T
  | none => .non
  | some n => .int n
def spNumIn : SpT := fun ls G => ∃ x : Str, ls = [.fz (.str x)] ∧ x.length + 2 ≤ sizeLine ∧ G (.fz (optN (numIn x.cps.toList))) []
theorem nil_cps {x : Str} : x = "" ↔ x.cps.toList = [] := by
  constructor
  · rintro rfl; decide +kernel
  · intro h
    rw [str_S x, h]
    decide +kernel
theorem eq_cps {x : Str} {a : List Nat} (y : Str) (hy : y.cps.toList = a) : x = y ↔ x.cps.toList = a := by
  constructor
  · rintro rfl; exact hy
  · intro h
    rw [str_S x, str_S y, h, hy]
theorem fig_loop {x : Str} {S0 : S} {i : Nat} {Q : L → Prop} (hx : x.length ≤ sizeLine) (hi : i < S0.length) (q : Q (.fz (.bl (x.cps.toList.all isDig)))) :
    compL (gSlot i) cYes (rOp (fInStr false) (rVar i) (rC (T.str (Str.ofString "0123456789")))) (strT x) S0 [] fun ls => fBools (fun bs => bs.all id) [L.lst ls] Q := by
  refine compL_map (f := fun c => .fz (.bl (isDig c))) (fun c hc X hX => ?_) (by rw [len_cps] at hx; simpa using hx) ?_
  · refine ⟨hi, ?_⟩
    have e : (S0.set i (some (L.fz (T.str ⟨#[c]⟩))))[i]? = some (some (L.fz (T.str ⟨#[c]⟩))) := by rw [List.getElem?_set_self hi]
    simp only [rOp, rVar, e, rC, strip_str, fInStr]
    rw [if_neg (by decide), fig_in]
    first | exact ⟨rfl, hX⟩ | exact ⟨trivial, hX⟩ | exact hX
  · exact fBools_map isDig _ q
theorem vc_num_in : ∀ ls G, spNumIn ls G → m_number_in (endOf ls G) (start0 N_number_in.length ls) := by
  rintro ls G ⟨x, rfl, hx, hG⟩
  have hl := len_cps x
  unfold m_number_in
  refine seq_gen fun k1 hk1 => ?_
  replace hk1 := Hid.mk hk1
  have no : numIn x.cps.toList = none → G (.fz .non) [] := fun h => by rw [h] at hG; exact hG
  simp [rCompX, wipeS, -List.map_take, -List.map_drop, cut_map, atI_lit, ixN_lit, fAdd, fI, fI0, sIf, sSet, sIx, sRetV, sRet, sRetN, sNext, sDrop, sAsg, tsAnd, tsOr, tsNot, tsV, rOp, rVar, rC, HTr.rIx, ixL, start0, fEq, eqAtom, strip_pin, strip_at, strip_non, strip_bl, strip_int, strip_str, strip_ftup, strip_flst, strip_fdct, strip_fobj, strip_box, strip_scr, strip_tup, strip_lst, strip_dct, strip_obj, L.tree, L.trees, L.isFz, rCa, fLen, aCons, aNil, fCmp, pVar, endOf, backs, rAndV, rOrV, rNotV, rIf, rChain, rLst, rTup, mkTup, fInStr, fInSeq, fIsN, T.isNon, gSlot, gTupT, gsCons, gsNil, rSl, oNone, oSome, fSl, itemsF_fz, itemsF_fzc, trees_fzc, itemsF_lst, itemsF_tup, itemsF_str, itemsF_scr, itemsFT_tup, itemsFT_lst, itemsFT_str, itemsFT_scr, cut_to, frz_map, frz_cons, frz_nil, rIs, T.ty?, tyIs, rFld, look]
  by_cases h0 : x = ""
  · rw [if_pos h0]
    refine no ?_
    unfold numIn
    rw [if_pos (.inl (nil_cps.mp h0))]
  rw [if_neg h0]
  refine ⟨by omega, ?_⟩
  by_cases h2 : 2 < x.length
  · rw [if_pos (by omega)]
    refine no ?_
    unfold numIn
    rw [if_pos (.inr (.inl (by omega)))]
  rw [if_neg (by omega)]
  refine fig_loop (by omega) (by simp) ?_
  dsimp only
  cases h3 : x.cps.toList.all isDig with
  | false =>
    rw [if_neg (by decide)]
    refine no ?_
    unfold numIn
    rw [if_pos (.inr (.inr h3))]
  | true =>
    rw [if_pos rfl]
    have n1 : x.cps.toList ≠ [] := fun z => h0 (nil_cps.mpr z)
    have nc : ¬ (x.cps.toList = [] ∨ 2 < x.cps.toList.length ∨ x.cps.toList.all isDig = false) := by
      rintro (z | z | z)
      · exact n1 z
      · omega
      · rw [h3] at z; cases z
    refine hk1.h _ ?_
    clear hk1 k1
    have z0 := eq_cps (x := x) (a := [48]) "0" (by decide +kernel)
    simp [fIntS, -List.map_take, -List.map_drop, cut_map, atI_lit, ixN_lit, fAdd, fI, fI0, sIf, sSet, sIx, sRetV, sRet, sRetN, sNext, sDrop, sAsg, tsAnd, tsOr, tsNot, tsV, rOp, rVar, rC, HTr.rIx, ixL, start0, fEq, eqAtom, strip_pin, strip_at, strip_non, strip_bl, strip_int, strip_str, strip_ftup, strip_flst, strip_fdct, strip_fobj, strip_box, strip_scr, strip_tup, strip_lst, strip_dct, strip_obj, L.tree, L.trees, L.isFz, rCa, fLen, aCons, aNil, fCmp, pVar, endOf, backs, rAndV, rOrV, rNotV, rIf, rChain, rLst, rTup, mkTup, fInStr, fInSeq, fIsN, T.isNon, gSlot, gTupT, gsCons, gsNil, rSl, oNone, oSome, fSl, itemsF_fz, itemsF_fzc, trees_fzc, itemsF_lst, itemsF_tup, itemsF_str, itemsF_scr, itemsFT_tup, itemsFT_lst, itemsFT_str, itemsFT_scr, cut_to, frz_map, frz_cons, frz_nil, rIs, T.ty?, tyIs, rFld, look]
    have iv : intText? x = some ((NumText.digitsVal x.cps.toList : Nat) : Int) := by
      have := SX.int_S (a := x.cps.toList) (by
        rw [List.all_eq_true] at h3 ⊢
        intro c hc
        have := h3 c hc
        simpa [isDig] using this) n1 (by omega)
      exact this
    have l64 : x.length ≤ 640 := by omega
    have fin : ¬ (x.cps.toList ≠ [48] ∧ x.cps.toList.head? = some 48) → ∃ n, intText? x = some n ∧ x.length ≤ 640 ∧ G (L.fz (T.int n)) [] := fun h => by
      unfold numIn at hG
      rw [if_neg nc, if_neg h] at hG
      exact ⟨_, iv, l64, hG⟩
    by_cases hz : x = "0"
    · rw [if_pos hz]
      exact fin fun z => z.1 (z0.mp hz)
    · rw [if_neg hz]
      refine ⟨by omega, ?_⟩
      obtain ⟨c, r, hc⟩ := List.exists_cons_of_ne_nil n1
      have e0 : x.cps[0]? = some c := by
        rw [← Array.getElem?_toList, hc]; rfl
      rw [e0]
      dsimp only
      have ec : (⟨#[c]⟩ : Str) = "0" ↔ c = 48 := by
        rw [eq_cps (x := ⟨#[c]⟩) (a := [48]) "0" (by decide +kernel)]
        simp
      by_cases h48 : c = 48
      · rw [if_pos (ec.mpr h48)]
        refine no ?_
        unfold numIn
        rw [if_neg nc, if_pos ⟨fun z => hz (z0.mpr z), by rw [hc, h48]; rfl⟩]
      · rw [if_neg fun z => h48 (ec.mp z)]
        exact fin fun z => h48 (by have := z.2; rw [hc] at this; simpa using this)
def spLawNumIn : SpT := fun ls G => ∃ x : Str, ls = [.fz (.str x)] ∧ x.length + 2 ≤ sizeLine ∧ G (.fz (.int (((numIn x.cps.toList).getD 99 : Nat) : Int))) []
theorem vc_law_num_in : ∀ ls G, spLawNumIn ls G → m_law_number_in (endOf ls G) (start0 N_law_number_in.length ls) := by
  rintro ls G ⟨x, rfl, hx, hG⟩
  have hl := len_cps x
  unfold m_law_number_in
  refine seq_gen fun k1 hk1 => ?_
  replace hk1 := Hid.mk hk1
  have no : numIn x.cps.toList = none → G (.fz (.int 99)) [] := fun h => by rw [h] at hG; exact hG
  simp [rCompX, wipeS, -List.map_take, -List.map_drop, cut_map, atI_lit, ixN_lit, fAdd, fI, fI0, sIf, sSet, sIx, sRetV, sRet, sRetN, sNext, sDrop, sAsg, tsAnd, tsOr, tsNot, tsV, rOp, rVar, rC, HTr.rIx, ixL, start0, fEq, eqAtom, strip_pin, strip_at, strip_non, strip_bl, strip_int, strip_str, strip_ftup, strip_flst, strip_fdct, strip_fobj, strip_box, strip_scr, strip_tup, strip_lst, strip_dct, strip_obj, L.tree, L.trees, L.isFz, rCa, fLen, aCons, aNil, fCmp, pVar, endOf, backs, rAndV, rOrV, rNotV, rIf, rChain, rLst, rTup, mkTup, fInStr, fInSeq, fIsN, T.isNon, gSlot, gTupT, gsCons, gsNil, rSl, oNone, oSome, fSl, itemsF_fz, itemsF_fzc, trees_fzc, itemsF_lst, itemsF_tup, itemsF_str, itemsF_scr, itemsFT_tup, itemsFT_lst, itemsFT_str, itemsFT_scr, cut_to, frz_map, frz_cons, frz_nil, rIs, T.ty?, tyIs, rFld, look]
  refine ⟨by omega, ?_⟩
  by_cases h1 : 1 ≤ x.length
  rotate_left
  · rw [decide_eq_false (show ¬ (1 : Int) ≤ (x.length : Int) by omega)]
    refine no ?_
    unfold numIn
    rw [if_pos (.inl (List.eq_nil_of_length_eq_zero (by omega)))]
  rw [decide_eq_true (show (1 : Int) ≤ (x.length : Int) by omega)]
  dsimp only
  by_cases h2 : 2 < x.length
  · rw [if_pos (by omega)]
    refine no ?_
    unfold numIn
    rw [if_pos (.inr (.inl (by omega)))]
  rw [if_neg (by omega)]
  refine fig_loop (by omega) (by simp) ?_
  dsimp only
  cases h3 : x.cps.toList.all isDig with
  | false =>
    rw [if_neg (by decide)]
    refine no ?_
    unfold numIn
    rw [if_pos (.inr (.inr h3))]
  | true =>
    rw [if_pos rfl]
    have n1 : x.cps.toList ≠ [] := fun z => by rw [z] at hl; simp at hl; omega
    have nc : ¬ (x.cps.toList = [] ∨ 2 < x.cps.toList.length ∨ x.cps.toList.all isDig = false) := by
      rintro (z | z | z)
      · exact n1 z
      · omega
      · rw [h3] at z; cases z
    refine hk1.h _ ?_
    clear hk1 k1
    simp [fIntS, -List.map_take, -List.map_drop, cut_map, atI_lit, ixN_lit, fAdd, fI, fI0, sIf, sSet, sIx, sRetV, sRet, sRetN, sNext, sDrop, sAsg, tsAnd, tsOr, tsNot, tsV, rOp, rVar, rC, HTr.rIx, ixL, start0, fEq, eqAtom, strip_pin, strip_at, strip_non, strip_bl, strip_int, strip_str, strip_ftup, strip_flst, strip_fdct, strip_fobj, strip_box, strip_scr, strip_tup, strip_lst, strip_dct, strip_obj, L.tree, L.trees, L.isFz, rCa, fLen, aCons, aNil, fCmp, pVar, endOf, backs, rAndV, rOrV, rNotV, rIf, rChain, rLst, rTup, mkTup, fInStr, fInSeq, fIsN, T.isNon, gSlot, gTupT, gsCons, gsNil, rSl, oNone, oSome, fSl, itemsF_fz, itemsF_fzc, trees_fzc, itemsF_lst, itemsF_tup, itemsF_str, itemsF_scr, itemsFT_tup, itemsFT_lst, itemsFT_str, itemsFT_scr, cut_to, frz_map, frz_cons, frz_nil, rIs, T.ty?, tyIs, rFld, look]
    have iv : intText? x = some ((NumText.digitsVal x.cps.toList : Nat) : Int) := by
      have := SX.int_S (a := x.cps.toList) (by
        rw [List.all_eq_true] at h3 ⊢
        intro c hc
        have := h3 c hc
        simpa [isDig] using this) n1 (by omega)
      exact this
    have l64 : x.length ≤ 640 := by omega
    have fin : ¬ (x.cps.toList ≠ [48] ∧ x.cps.toList.head? = some 48) → ∃ n, intText? x = some n ∧ x.length ≤ 640 ∧ G (L.fz (T.int n)) [] := fun h => by
      unfold numIn at hG
      rw [if_neg nc, if_neg h] at hG
      exact ⟨_, iv, l64, hG⟩
    refine ⟨by omega, ?_⟩
    obtain ⟨c, r, hc⟩ := List.exists_cons_of_ne_nil n1
    by_cases hl2 : x.length = 2
    · rw [if_pos (by omega)]
      refine ⟨by omega, ?_⟩
      have e0 : x.cps[0]? = some c := by
        rw [← Array.getElem?_toList, hc]; rfl
      rw [e0]
      dsimp only
      have ec : (⟨#[c]⟩ : Str) = "0" ↔ c = 48 := by
        rw [eq_cps (x := ⟨#[c]⟩) (a := [48]) "0" (by decide +kernel)]
        simp
      by_cases h48 : c = 48
      · rw [if_pos (ec.mpr h48)]
        refine no ?_
        unfold numIn
        rw [if_neg nc, if_pos ⟨fun z => by rw [z] at hl; simp at hl; omega, by rw [hc, h48]; rfl⟩]
      · rw [if_neg fun z => h48 (ec.mp z)]
        exact fin fun z => h48 (by have := z.2; rw [hc] at this; simpa using this)
    · rw [if_neg (by omega)]
      refine fin fun z => ?_
      have lr : r = [] := List.eq_nil_of_length_eq_zero (by rw [hc] at hl; simp at hl; omega)
      subst lr
      have : c = 48 := by have := z.2; rw [hc] at this; simpa using this
      subst this
      exact z.1 hc
end W
namespace W
open PySem L2 HTr
def rankK : Tie → List Key
  | .inl y => [.inl 0, .inr y.c, .inl y.a, .inl y.b]
  | .inr y => [.inl 1, .inr y.c, .inl y.a]
def isAbc (c : Nat) : Bool := decide (c = 97 ∨ c = 98 ∨ c = 99)
def isPqr (c : Nat) : Bool := decide (c = 112 ∨ c = 113 ∨ c = 114)
def cutAbc : List Nat → Option (List Nat × Nat × List Nat)
  | [] => none
  | c :: r => if isAbc c = true then some ([], c, r) else (cutAbc r).map fun x => (c :: x.1, x.2.1, x.2.2)
def arwIn (w : List Nat) (n : Nat) : Option Arw := match cutAbc w with
  | some (p, d, q) => match numIn p, numIn q with
    | some a, some b => if a < n ∧ b < n then some ⟨⟨#[d]⟩, a, b⟩ else none
    | _, _ => none
  | none => none
def mrkIn (w : List Nat) (n : Nat) : Option Mrk := match w with
  | c :: r => match numIn r with
    | some k => if k < n then some ⟨⟨#[c]⟩, k⟩ else none
    | none => none
  | [] => none
def wTie (w : List Nat) (n : Nat) : Option Tie := if (w.head?.map isPqr) = some true then (mrkIn w n).map .inr else (arwIn w n).map .inl
theorem cutAbc_eq : ∀ {w p q : List Nat} {d : Nat}, cutAbc w = some (p, d, q) → w = p ++ d :: q ∧ isAbc d = true ∧ p.all (fun c => !isAbc c) = true
  | [], _, _, _, h => by cases h
  | c :: r, p, q, d, h => by
    unfold cutAbc at h
    split at h
    · rename_i hc
      cases h
      exact ⟨rfl, hc, rfl⟩
    · rename_i hc
      cases e : cutAbc r with
      | none => rw [e] at h; cases h
      | some x =>
        obtain ⟨p', d', q'⟩ := x
        rw [e] at h
        cases h
        obtain ⟨h1, h2, h3⟩ := cutAbc_eq e
        refine ⟨by rw [h1]; rfl, h2, ?_⟩
        rw [List.all_cons, h3]
        simpa using hc
theorem cutAbc_of : ∀ {p q : List Nat} {d : Nat}, isAbc d = true → p.all (fun c => !isAbc c) = true → cutAbc (p ++ d :: q) = some (p, d, q)
  | [], q, d, h1, _ => by
    show (if isAbc d = true then _ else _) = _
    rw [if_pos h1]
  | c :: p, q, d, h1, h2 => by
    rw [List.all_cons, Bool.and_eq_true] at h2
    show (if isAbc c = true then _ else _) = _
    rw [if_neg (by simpa using h2.1)]
    show Option.map _ (cutAbc (p ++ d :: q)) = _
    rw [cutAbc_of h1 h2.2]
    rfl
theorem dig_abc {a : List Nat} (h : a.all isDig = true) : a.all (fun c => !isAbc c) = true := by
  rw [List.all_eq_true] at h ⊢
  intro c hc
  have := of_decide_eq_true (h c hc)
  simp [isAbc]
  omega
theorem arwIn_iff {w : List Nat} {n : Nat} {y : Arw} : arwIn w n = some y ↔ ∃ p d q a b, w = p ++ d :: q ∧ isAbc d = true ∧ numIn p = some a ∧ numIn q = some b ∧ a < n ∧ b < n ∧ y = ⟨⟨#[d]⟩, a, b⟩ := by
  unfold arwIn
  constructor
  · intro h
    cases e : cutAbc w with
    | none => rw [e] at h; cases h
    | some x =>
      obtain ⟨p, d, q⟩ := x
      rw [e] at h
      obtain ⟨h1, h2, h3⟩ := cutAbc_eq e
      dsimp only at h
      cases ea : numIn p with
      | none => rw [ea] at h; cases h
      | some a =>
        cases eb : numIn q with
        | none => rw [ea, eb] at h; cases h
        | some b =>
          rw [ea, eb] at h
          dsimp only at h
          split at h
          · rename_i hab
            exact ⟨p, d, q, a, b, h1, h2, ea, eb, hab.1, hab.2, (Option.some.inj h).symm⟩
          · cases h
  · rintro ⟨p, d, q, a, b, rfl, h2, h3, h4, h5, h6, rfl⟩
    rw [cutAbc_of h2 (dig_abc (numIn_some h3).2.2.2.2.2.1)]
    dsimp only
    rw [h3, h4]
    dsimp only
    rw [if_pos ⟨h5, h6⟩]
theorem arwIn_none {w : List Nat} {n : Nat} : arwIn w n = none ↔ ∀ p d q a b, w = p ++ d :: q → isAbc d = true → numIn p = some a → numIn q = some b → ¬ (a < n ∧ b < n) := by
  constructor
  · intro h p d q a b h1 h2 h3 h4 h5
    have := arwIn_iff.mpr ⟨p, d, q, a, b, h1, h2, h3, h4, h5.1, h5.2, rfl⟩
    rw [h] at this; cases this
  · intro h
    cases e : arwIn w n with
    | none => rfl
    | some y =>
      obtain ⟨p, d, q, a, b, h1, h2, h3, h4, h5, h6, _⟩ := arwIn_iff.mp e
      exact absurd ⟨h5, h6⟩ (h p d q a b h1 h2 h3 h4)
theorem abc_cols (d : Nat) : decide ((⟨#[d]⟩ : Str) ∈ cols) = isAbc d := by
  refine decide_eq_decide.mpr ((cols_iff _).trans ⟨fun h => ?_, fun h => ⟨rfl, ?_⟩⟩)
  · have := h.2
    simpa [one_cps] using this
  · simpa [one_cps] using h
theorem pqr_mrks (d : Nat) : (⟨#[d]⟩ : Str) ∈ mrks ↔ isPqr d = true := by
  refine (mrks_iff _).trans ⟨fun h => ?_, fun h => ⟨rfl, ?_⟩⟩
  · have := h.2
    simpa [one_cps, isPqr] using this
  · simpa [one_cps, isPqr] using h
theorem cut_to_S (x : Str) (i : Nat) : cutS x none (some (i : Int)) = SX.S (x.cps.toList.take i) := by
  rw [C8.cutS_slice]
  exact (SX.slice_to (a := x.cps.toList) (by omega)).trans (by rw [Int.toNat_natCast])
theorem cut_from_S (x : Str) (i : Nat) : cutS x (some (i : Int)) none = SX.S (x.cps.toList.drop i) := by
  rw [C8.cutS_slice]
  exact (SX.slice_from (a := x.cps.toList) (by omega)).trans (by rw [Int.toNat_natCast])
theorem S_cps (a : List Nat) : (SX.S a).cps.toList = a := rfl
def rankT : Option Tie → T
  | none => .non
  | some t => tkey (rankK t)
def spTieIn : SpT := fun ls G => ∃ (x : Str) (n : Nat), ls = [.fz (.str x), .fz (.int n)] ∧ x.length + 2 ≤ 1000000 ∧ n ≤ 81 ∧ G (.fz (rankT (wTie x.cps.toList n))) []
theorem take1_mrks (x : Str) : SX.S (x.cps.toList.take 1) ∈ mrks ↔ (x.cps.toList.head?.map isPqr) = some true := by
  cases h : x.cps.toList with
  | nil => simp [mrks]; decide +kernel
  | cons c r =>
    show (⟨#[c]⟩ : Str) ∈ mrks ↔ some (isPqr c) = some true
    rw [pqr_mrks]; simp
theorem vc_tie_in : ∀ ls G, spTieIn ls G → m_tie_in spNumIn spColG (endOf ls G) (start0 N_tie_in.length ls) := by
  rintro ls G ⟨x, n, rfl, hx, hn, hG⟩
  have hl := len_cps x
  have hz : 2000000 < sizeLine := by decide
  unfold m_tie_in
  refine seq_gen fun k1 hk1 => ?_
  replace hk1 := Hid.mk hk1
  simp [oNone, oSome, -List.map_take, -List.map_drop, cut_map, atI_lit, ixN_lit, fAdd, fI, fI0, sIf, sSet, sIx, sRetV, sRet, sRetN, sNext, sDrop, sAsg, tsAnd, tsOr, tsNot, tsV, rOp, rVar, rC, HTr.rIx, ixL, start0, fEq, eqAtom, strip_pin, strip_at, strip_non, strip_bl, strip_int, strip_str, strip_ftup, strip_flst, strip_fdct, strip_fobj, strip_box, strip_scr, strip_tup, strip_lst, strip_dct, strip_obj, L.tree, L.trees, L.isFz, rCa, fLen, aCons, aNil, fCmp, pVar, endOf, backs, rAndV, rOrV, rNotV, rIf, rChain, rLst, rTup, mkTup, fInStr, fInSeq, fIsN, T.isNon, gSlot, gTupT, gsCons, gsNil, rSl, oNone, oSome, fSl, itemsF_fz, itemsF_fzc, trees_fzc, itemsF_lst, itemsF_tup, itemsF_str, itemsF_scr, itemsFT_tup, itemsFT_lst, itemsFT_str, itemsFT_scr, cut_to, frz_map, frz_cons, frz_nil, rIs, T.ty?, tyIs, rFld, look]
  refine ⟨by omega, by decide, rfl, flatStrs mrks, ?_⟩
  have et : cutS x none (some 1) = SX.S (x.cps.toList.take 1) := cut_to_S x 1
  split
  · rename_i h
    have hm : (x.cps.toList.head?.map isPqr) = some true := (take1_mrks x).mp (et ▸ (inTup (cs := mrks)).mp h)
    clear h
    obtain ⟨c, r, hc⟩ : ∃ c r, x.cps.toList = c :: r := by
      cases e : x.cps.toList with
      | nil => rw [e] at hm; cases hm
      | cons c r => exact ⟨c, r, rfl⟩
    have e0 : x.cps[0]? = some c := by rw [← Array.getElem?_toList, hc]; rfl
    have ef : cutS x (some 1) none = SX.S r := by
      rw [show (1 : Int) = ((1 : Nat) : Int) from rfl, cut_from_S x 1, hc]; rfl
    have hG' : G (L.fz (rankT ((mrkIn (c :: r) n).map .inr))) [] := by
      have e : wTie x.cps.toList n = (mrkIn (c :: r) n).map .inr := by
        unfold wTie
        rw [if_pos hm, hc]
      rw [e] at hG; exact hG
    refine seq_gen fun k2 hk2 => ?_
    replace hk2 := Hid.mk hk2
    simp [rCallU, oNone, oSome, -List.map_take, -List.map_drop, cut_map, atI_lit, ixN_lit, fAdd, fI, fI0, sIf, sSet, sIx, sRetV, sRet, sRetN, sNext, sDrop, sAsg, tsAnd, tsOr, tsNot, tsV, rOp, rVar, rC, HTr.rIx, ixL, start0, fEq, eqAtom, strip_pin, strip_at, strip_non, strip_bl, strip_int, strip_str, strip_ftup, strip_flst, strip_fdct, strip_fobj, strip_box, strip_scr, strip_tup, strip_lst, strip_dct, strip_obj, L.tree, L.trees, L.isFz, rCa, fLen, aCons, aNil, fCmp, pVar, endOf, backs, rAndV, rOrV, rNotV, rIf, rChain, rLst, rTup, mkTup, fInStr, fInSeq, fIsN, T.isNon, gSlot, gTupT, gsCons, gsNil, rSl, oNone, oSome, fSl, itemsF_fz, itemsF_fzc, trees_fzc, itemsF_lst, itemsF_tup, itemsF_str, itemsF_scr, itemsFT_tup, itemsFT_lst, itemsFT_str, itemsFT_scr, cut_to, frz_map, frz_cons, frz_nil, rIs, T.ty?, tyIs, rFld, look]
    refine ⟨by omega, SX.S r, by rw [ef], by rw [SX.S_len]; rw [hc] at hl; simp at hl; omega, .inl (.inl rfl), ?_⟩
    refine hk2.h _ ?_
    clear hk2 k2 hk1
    rw [S_cps]
    cases hr : numIn r with
    | none =>
      have := hG'
      simp only [mrkIn, hr] at this
      simp [optN, -List.map_take, -List.map_drop, cut_map, atI_lit, ixN_lit, fAdd, fI, fI0, sIf, sSet, sIx, sRetV, sRet, sRetN, sNext, sDrop, sAsg, tsAnd, tsOr, tsNot, tsV, rOp, rVar, rC, HTr.rIx, ixL, start0, fEq, eqAtom, strip_pin, strip_at, strip_non, strip_bl, strip_int, strip_str, strip_ftup, strip_flst, strip_fdct, strip_fobj, strip_box, strip_scr, strip_tup, strip_lst, strip_dct, strip_obj, L.tree, L.trees, L.isFz, rCa, fLen, aCons, aNil, fCmp, pVar, endOf, backs, rAndV, rOrV, rNotV, rIf, rChain, rLst, rTup, mkTup, fInStr, fInSeq, fIsN, T.isNon, gSlot, gTupT, gsCons, gsNil, rSl, oNone, oSome, fSl, itemsF_fz, itemsF_fzc, trees_fzc, itemsF_lst, itemsF_tup, itemsF_str, itemsF_scr, itemsFT_tup, itemsFT_lst, itemsFT_str, itemsFT_scr, cut_to, frz_map, frz_cons, frz_nil, rIs, T.ty?, tyIs, rFld, look]
      exact this
    | some k =>
      have := hG'
      simp only [mrkIn, hr] at this
      by_cases hkn : k < n
      · rw [if_pos hkn] at this
        simp [optN, -List.map_take, -List.map_drop, cut_map, atI_lit, ixN_lit, fAdd, fI, fI0, sIf, sSet, sIx, sRetV, sRet, sRetN, sNext, sDrop, sAsg, tsAnd, tsOr, tsNot, tsV, rOp, rVar, rC, HTr.rIx, ixL, start0, fEq, eqAtom, strip_pin, strip_at, strip_non, strip_bl, strip_int, strip_str, strip_ftup, strip_flst, strip_fdct, strip_fobj, strip_box, strip_scr, strip_tup, strip_lst, strip_dct, strip_obj, L.tree, L.trees, L.isFz, rCa, fLen, aCons, aNil, fCmp, pVar, endOf, backs, rAndV, rOrV, rNotV, rIf, rChain, rLst, rTup, mkTup, fInStr, fInSeq, fIsN, T.isNon, gSlot, gTupT, gsCons, gsNil, rSl, oNone, oSome, fSl, itemsF_fz, itemsF_fzc, trees_fzc, itemsF_lst, itemsF_tup, itemsF_str, itemsF_scr, itemsFT_tup, itemsFT_lst, itemsFT_str, itemsFT_scr, cut_to, frz_map, frz_cons, frz_nil, rIs, T.ty?, tyIs, rFld, look]
        rw [if_neg (by omega), e0]
        exact ⟨by omega, by decide, this⟩
      · rw [if_neg hkn] at this
        have d1 : (n : Int) ≤ (k : Int) := by omega
        simp [optN, d1, -List.map_take, -List.map_drop, cut_map, atI_lit, ixN_lit, fAdd, fI, fI0, sIf, sSet, sIx, sRetV, sRet, sRetN, sNext, sDrop, sAsg, tsAnd, tsOr, tsNot, tsV, rOp, rVar, rC, HTr.rIx, ixL, start0, fEq, eqAtom, strip_pin, strip_at, strip_non, strip_bl, strip_int, strip_str, strip_ftup, strip_flst, strip_fdct, strip_fobj, strip_box, strip_scr, strip_tup, strip_lst, strip_dct, strip_obj, L.tree, L.trees, L.isFz, rCa, fLen, aCons, aNil, fCmp, pVar, endOf, backs, rAndV, rOrV, rNotV, rIf, rChain, rLst, rTup, mkTup, fInStr, fInSeq, fIsN, T.isNon, gSlot, gTupT, gsCons, gsNil, rSl, oNone, oSome, fSl, itemsF_fz, itemsF_fzc, trees_fzc, itemsF_lst, itemsF_tup, itemsF_str, itemsF_scr, itemsFT_tup, itemsFT_lst, itemsFT_str, itemsFT_scr, cut_to, frz_map, frz_cons, frz_nil, rIs, T.ty?, tyIs, rFld, look]
        exact this
  · rename_i h
    have hm : ¬ (x.cps.toList.head?.map isPqr) = some true := fun z => h ((inTup (cs := mrks)).mpr (et ▸ (take1_mrks x).mpr z))
    clear h
    have hG' : G (L.fz (rankT ((arwIn x.cps.toList n).map .inl))) [] := by
      have e : wTie x.cps.toList n = (arwIn x.cps.toList n).map .inl := by
        unfold wTie
        rw [if_neg hm]
      rw [e] at hG; exact hG
    clear hG
    refine hk1.h _ ?_
    clear hk1 k1
    refine seq_gen fun k1 hk1 => ?_
    replace hk1 := Hid.mk hk1
    simp [sForR2, fMin2, -List.map_take, -List.map_drop, cut_map, atI_lit, ixN_lit, fAdd, fI, fI0, sIf, sSet, sIx, sRetV, sRet, sRetN, sNext, sDrop, sAsg, tsAnd, tsOr, tsNot, tsV, rOp, rVar, rC, HTr.rIx, ixL, start0, fEq, eqAtom, strip_pin, strip_at, strip_non, strip_bl, strip_int, strip_str, strip_ftup, strip_flst, strip_fdct, strip_fobj, strip_box, strip_scr, strip_tup, strip_lst, strip_dct, strip_obj, L.tree, L.trees, L.isFz, rCa, fLen, aCons, aNil, fCmp, pVar, endOf, backs, rAndV, rOrV, rNotV, rIf, rChain, rLst, rTup, mkTup, fInStr, fInSeq, fIsN, T.isNon, gSlot, gTupT, gsCons, gsNil, rSl, oNone, oSome, fSl, itemsF_fz, itemsF_fzc, trees_fzc, itemsF_lst, itemsF_tup, itemsF_str, itemsF_scr, itemsFT_tup, itemsFT_lst, itemsFT_str, itemsFT_scr, cut_to, frz_map, frz_cons, frz_nil, rIs, T.ty?, tyIs, rFld, look]
    obtain ⟨M, eM, m1, m2, m3, m4⟩ : ∃ M : Int, (if (x.length : Int) - 1 < 3 then (x.length : Int) - 1 else 3) = M ∧ M ≤ 3 ∧ M ≤ x.length - 1 ∧ -1 ≤ M ∧ (M = 3 ∨ M = x.length - 1) := by
      refine ⟨_, rfl, ?_⟩
      split <;> omega
    rw [eM]
    refine ⟨by omega, ⟨by omega, by omega⟩, ?_⟩
    clear eM
    have hm1 : (M.toNat - 1 : Nat) ≤ 2 := by omega
    refine forR (lo := 1) (n := M.toNat - 1) (I := fun i S => (∀ p d q a b, x.cps.toList = p ++ d :: q → 1 ≤ p.length → p.length < 1 + i → isAbc d = true → numIn p = some a → numIn q = some b → ¬ (a < n ∧ b < n)) ∧ ∃ o2 o4 o5, S = [some (L.fz (T.str x)), some (L.fz (T.int n)), o2, none, o4, o5])
      ⟨fun p d q a b _ h1 h2 => by omega, _, _, _, rfl⟩ ?_ ?_
    · rintro i S hi ⟨hno, o2, o4, o5, rfl⟩ k hk
      refine ⟨by simp, ?_⟩
      have hi2 : i + 1 + 1 < x.length := by omega
      obtain ⟨d, hd⟩ : ∃ d, x.cps.toList[i + 1]? = some d := ⟨_, List.getElem?_eq_getElem (by omega)⟩
      have e0 : x.cps[i + 1]? = some d := by rw [← Array.getElem?_toList]; exact hd
      have spl : ∀ p d' q, x.cps.toList = p ++ d' :: q → p.length = i + 1 → p = x.cps.toList.take (i + 1) ∧ d' = d ∧ q = x.cps.toList.drop (i + 1 + 1) := by
        intro p d' q e hp
        have h1 : x.cps.toList.take (i + 1) = p := by rw [e, ← hp]; simp
        have h2 : x.cps.toList.drop (i + 1) = d' :: q := by rw [e, ← hp]; simp
        have h3 : x.cps.toList[i + 1]? = some d' := by rw [e, ← hp]; simp
        rw [hd] at h3
        refine ⟨h1.symm, (Option.some.inj h3).symm, ?_⟩
        rw [← List.drop_drop, h2]
        simp
      have whole : x.cps.toList = x.cps.toList.take (i + 1) ++ d :: x.cps.toList.drop (i + 1 + 1) := by
        rw [List.getElem?_eq_some_iff] at hd
        obtain ⟨hlt, hd⟩ := hd
        rw [← hd, ← List.drop_eq_getElem_cons, List.take_append_drop]
      have next : (∀ a b, isAbc d = true → numIn (x.cps.toList.take (i + 1)) = some a → numIn (x.cps.toList.drop (i + 1 + 1)) = some b → ¬ (a < n ∧ b < n)) → ∀ o2 o4 o5, k [some (L.fz (T.str x)), some (L.fz (T.int n)), o2, none, o4, o5] := by
        intro hh o2 o4 o5
        refine hk _ ⟨fun p d' q a b e h1 h2 h3 h4 h5 => ?_, _, _, _, rfl⟩
        by_cases hp : p.length = i + 1
        · obtain ⟨rfl, rfl, rfl⟩ := spl p d' q e hp
          exact hh a b h3 h4 h5
        · exact hno p d' q a b e h1 (by omega) h3 h4 h5
      have ei : (1 : Int) + (i : Int) = ((i + 1 : Nat) : Int) := by omega
      rw [ei]
      generalize i + 1 = j at *
      have ea : atI x.cps.toList (j : Int) = some d := by rw [atI_of _ _ (by omega), Int.toNat_natCast]; exact hd
      simp [rCallU, -List.map_take, -List.map_drop, cut_map, atI_lit, ixN_lit, fAdd, fI, fI0, sIf, sSet, sIx, sRetV, sRet, sRetN, sNext, sDrop, sAsg, tsAnd, tsOr, tsNot, tsV, rOp, rVar, rC, HTr.rIx, ixL, start0, fEq, eqAtom, strip_pin, strip_at, strip_non, strip_bl, strip_int, strip_str, strip_ftup, strip_flst, strip_fdct, strip_fobj, strip_box, strip_scr, strip_tup, strip_lst, strip_dct, strip_obj, L.tree, L.trees, L.isFz, rCa, fLen, aCons, aNil, fCmp, pVar, endOf, backs, rAndV, rOrV, rNotV, rIf, rChain, rLst, rTup, mkTup, fInStr, fInSeq, fIsN, T.isNon, gSlot, gTupT, gsCons, gsNil, rSl, oNone, oSome, fSl, itemsF_fz, itemsF_fzc, trees_fzc, itemsF_lst, itemsF_tup, itemsF_str, itemsF_scr, itemsFT_tup, itemsFT_lst, itemsFT_str, itemsFT_scr, cut_to, frz_map, frz_cons, frz_nil, rIs, T.ty?, tyIs, rFld, look]
      rw [ea]
      refine ⟨by omega, ⟨#[d]⟩, rfl, by show 1 ≤ sizeLine; decide, .inl (.inr rfl), ?_⟩
      show if decide ((⟨#[d]⟩ : Str) ∈ cols) = true then _ else _
      rw [abc_cols]
      by_cases hd1 : isAbc d = true
      rotate_left
      · rw [if_neg hd1]
        exact next (fun a b h => absurd h hd1) _ _ _
      rw [if_pos hd1]
      refine seq_gen fun k2 hk2 => ?_
      replace hk2 := Hid.mk hk2
      have ec1 : cutS x none (some (j : Int)) = SX.S (x.cps.toList.take j) := cut_to_S x j
      have ec2 : cutS x (some ((j : Int) + 1)) none = SX.S (x.cps.toList.drop (j + 1)) := cut_from_S x (j + 1)
      simp [rCallU, sPar, oNone, oSome, -List.map_take, -List.map_drop, cut_map, atI_lit, ixN_lit, fAdd, fI, fI0, sIf, sSet, sIx, sRetV, sRet, sRetN, sNext, sDrop, sAsg, tsAnd, tsOr, tsNot, tsV, rOp, rVar, rC, HTr.rIx, ixL, start0, fEq, eqAtom, strip_pin, strip_at, strip_non, strip_bl, strip_int, strip_str, strip_ftup, strip_flst, strip_fdct, strip_fobj, strip_box, strip_scr, strip_tup, strip_lst, strip_dct, strip_obj, L.tree, L.trees, L.isFz, rCa, fLen, aCons, aNil, fCmp, pVar, endOf, backs, rAndV, rOrV, rNotV, rIf, rChain, rLst, rTup, mkTup, fInStr, fInSeq, fIsN, T.isNon, gSlot, gTupT, gsCons, gsNil, rSl, oNone, oSome, fSl, itemsF_fz, itemsF_fzc, trees_fzc, itemsF_lst, itemsF_tup, itemsF_str, itemsF_scr, itemsFT_tup, itemsFT_lst, itemsFT_str, itemsFT_scr, cut_to, frz_map, frz_cons, frz_nil, rIs, T.ty?, tyIs, rFld, look]
      rw [ec1, ec2]
      refine ⟨by omega, _, rfl, by rw [SX.S_len, List.length_take]; omega, .inl (.inl rfl), by omega, _, rfl, by rw [SX.S_len, List.length_drop]; omega, .inl (.inl rfl), _, _, ⟨rfl, rfl⟩, ?_⟩
      rw [S_cps, S_cps]
      refine hk2.h _ ?_
      clear hk2 k2
      cases ea1 : numIn (x.cps.toList.take j) with
      | none =>
        simp [optN, -List.map_take, -List.map_drop, cut_map, atI_lit, ixN_lit, fAdd, fI, fI0, sIf, sSet, sIx, sRetV, sRet, sRetN, sNext, sDrop, sAsg, tsAnd, tsOr, tsNot, tsV, rOp, rVar, rC, HTr.rIx, ixL, start0, fEq, eqAtom, strip_pin, strip_at, strip_non, strip_bl, strip_int, strip_str, strip_ftup, strip_flst, strip_fdct, strip_fobj, strip_box, strip_scr, strip_tup, strip_lst, strip_dct, strip_obj, L.tree, L.trees, L.isFz, rCa, fLen, aCons, aNil, fCmp, pVar, endOf, backs, rAndV, rOrV, rNotV, rIf, rChain, rLst, rTup, mkTup, fInStr, fInSeq, fIsN, T.isNon, gSlot, gTupT, gsCons, gsNil, rSl, oNone, oSome, fSl, itemsF_fz, itemsF_fzc, trees_fzc, itemsF_lst, itemsF_tup, itemsF_str, itemsF_scr, itemsFT_tup, itemsFT_lst, itemsFT_str, itemsFT_scr, cut_to, frz_map, frz_cons, frz_nil, rIs, T.ty?, tyIs, rFld, look]
        exact next (fun a b _ h => by rw [ea1] at h; cases h) _ _ _
      | some a =>
        cases eb1 : numIn (x.cps.toList.drop (j + 1)) with
        | none =>
          simp [optN, -List.map_take, -List.map_drop, cut_map, atI_lit, ixN_lit, fAdd, fI, fI0, sIf, sSet, sIx, sRetV, sRet, sRetN, sNext, sDrop, sAsg, tsAnd, tsOr, tsNot, tsV, rOp, rVar, rC, HTr.rIx, ixL, start0, fEq, eqAtom, strip_pin, strip_at, strip_non, strip_bl, strip_int, strip_str, strip_ftup, strip_flst, strip_fdct, strip_fobj, strip_box, strip_scr, strip_tup, strip_lst, strip_dct, strip_obj, L.tree, L.trees, L.isFz, rCa, fLen, aCons, aNil, fCmp, pVar, endOf, backs, rAndV, rOrV, rNotV, rIf, rChain, rLst, rTup, mkTup, fInStr, fInSeq, fIsN, T.isNon, gSlot, gTupT, gsCons, gsNil, rSl, oNone, oSome, fSl, itemsF_fz, itemsF_fzc, trees_fzc, itemsF_lst, itemsF_tup, itemsF_str, itemsF_scr, itemsFT_tup, itemsFT_lst, itemsFT_str, itemsFT_scr, cut_to, frz_map, frz_cons, frz_nil, rIs, T.ty?, tyIs, rFld, look]
          exact next (fun a b _ _ h => by rw [eb1] at h; cases h) _ _ _
        | some b =>
          have nx2 : ¬ (a < n ∧ b < n) → ∀ o2 o4 o5, k [some (L.fz (T.str x)), some (L.fz (T.int n)), o2, none, o4, o5] := fun h => next fun a' b' _ h1 h2 => by
            rw [ea1] at h1; rw [eb1] at h2
            cases h1; cases h2
            exact h
          by_cases ha : a < n
          · by_cases hb : b < n
            · have hr : arwIn x.cps.toList n = some ⟨⟨#[d]⟩, a, b⟩ := arwIn_iff.mpr ⟨_, d, _, a, b, whole, hd1, ea1, eb1, ha, hb, rfl⟩
              rw [hr] at hG'
              simp [optN, -List.map_take, -List.map_drop, cut_map, atI_lit, ixN_lit, fAdd, fI, fI0, sIf, sSet, sIx, sRetV, sRet, sRetN, sNext, sDrop, sAsg, tsAnd, tsOr, tsNot, tsV, rOp, rVar, rC, HTr.rIx, ixL, start0, fEq, eqAtom, strip_pin, strip_at, strip_non, strip_bl, strip_int, strip_str, strip_ftup, strip_flst, strip_fdct, strip_fobj, strip_box, strip_scr, strip_tup, strip_lst, strip_dct, strip_obj, L.tree, L.trees, L.isFz, rCa, fLen, aCons, aNil, fCmp, pVar, endOf, backs, rAndV, rOrV, rNotV, rIf, rChain, rLst, rTup, mkTup, fInStr, fInSeq, fIsN, T.isNon, gSlot, gTupT, gsCons, gsNil, rSl, oNone, oSome, fSl, itemsF_fz, itemsF_fzc, trees_fzc, itemsF_lst, itemsF_tup, itemsF_str, itemsF_scr, itemsFT_tup, itemsFT_lst, itemsFT_str, itemsFT_scr, cut_to, frz_map, frz_cons, frz_nil, rIs, T.ty?, tyIs, rFld, look]
              rw [if_pos ha, if_pos hb, ea]
              exact ⟨by omega, by decide, hG'⟩
            · simp [optN, -List.map_take, -List.map_drop, cut_map, atI_lit, ixN_lit, fAdd, fI, fI0, sIf, sSet, sIx, sRetV, sRet, sRetN, sNext, sDrop, sAsg, tsAnd, tsOr, tsNot, tsV, rOp, rVar, rC, HTr.rIx, ixL, start0, fEq, eqAtom, strip_pin, strip_at, strip_non, strip_bl, strip_int, strip_str, strip_ftup, strip_flst, strip_fdct, strip_fobj, strip_box, strip_scr, strip_tup, strip_lst, strip_dct, strip_obj, L.tree, L.trees, L.isFz, rCa, fLen, aCons, aNil, fCmp, pVar, endOf, backs, rAndV, rOrV, rNotV, rIf, rChain, rLst, rTup, mkTup, fInStr, fInSeq, fIsN, T.isNon, gSlot, gTupT, gsCons, gsNil, rSl, oNone, oSome, fSl, itemsF_fz, itemsF_fzc, trees_fzc, itemsF_lst, itemsF_tup, itemsF_str, itemsF_scr, itemsFT_tup, itemsFT_lst, itemsFT_str, itemsFT_scr, cut_to, frz_map, frz_cons, frz_nil, rIs, T.ty?, tyIs, rFld, look]
              rw [if_pos ha, if_neg hb]
              exact nx2 (fun z => hb z.2) _ _ _
          · simp [optN, -List.map_take, -List.map_drop, cut_map, atI_lit, ixN_lit, fAdd, fI, fI0, sIf, sSet, sIx, sRetV, sRet, sRetN, sNext, sDrop, sAsg, tsAnd, tsOr, tsNot, tsV, rOp, rVar, rC, HTr.rIx, ixL, start0, fEq, eqAtom, strip_pin, strip_at, strip_non, strip_bl, strip_int, strip_str, strip_ftup, strip_flst, strip_fdct, strip_fobj, strip_box, strip_scr, strip_tup, strip_lst, strip_dct, strip_obj, L.tree, L.trees, L.isFz, rCa, fLen, aCons, aNil, fCmp, pVar, endOf, backs, rAndV, rOrV, rNotV, rIf, rChain, rLst, rTup, mkTup, fInStr, fInSeq, fIsN, T.isNon, gSlot, gTupT, gsCons, gsNil, rSl, oNone, oSome, fSl, itemsF_fz, itemsF_fzc, trees_fzc, itemsF_lst, itemsF_tup, itemsF_str, itemsF_scr, itemsFT_tup, itemsFT_lst, itemsFT_str, itemsFT_scr, cut_to, frz_map, frz_cons, frz_nil, rIs, T.ty?, tyIs, rFld, look]
            rw [if_neg ha]
            exact nx2 (fun z => ha z.1) _ _ _
    · rintro S ⟨hno, o2, o4, o5, rfl⟩
      refine hk1.h _ ?_
      clear hk1 k1
      have hn : arwIn x.cps.toList n = none := arwIn_none.mpr fun p d q a b e h1 h2 h3 => by
        obtain ⟨_, _, _, f1, f2, _⟩ := numIn_some h2
        obtain ⟨_, _, _, g1, g2, _⟩ := numIn_some h3
        have l1 : 1 ≤ p.length := List.length_pos_iff.mpr f1
        have l2 : 1 ≤ q.length := List.length_pos_iff.mpr g1
        have l3 : x.cps.toList.length = p.length + 1 + q.length := by rw [e]; simp; omega
        exact hno p d q a b e l1 (by omega) h1 h2 h3
      rw [hn] at hG'
      simp [true_and, -List.map_take, -List.map_drop, cut_map, atI_lit, ixN_lit, fAdd, fI, fI0, sIf, sSet, sIx, sRetV, sRet, sRetN, sNext, sDrop, sAsg, tsAnd, tsOr, tsNot, tsV, rOp, rVar, rC, HTr.rIx, ixL, start0, fEq, eqAtom, strip_pin, strip_at, strip_non, strip_bl, strip_int, strip_str, strip_ftup, strip_flst, strip_fdct, strip_fobj, strip_box, strip_scr, strip_tup, strip_lst, strip_dct, strip_obj, L.tree, L.trees, L.isFz, rCa, fLen, aCons, aNil, fCmp, pVar, endOf, backs, rAndV, rOrV, rNotV, rIf, rChain, rLst, rTup, mkTup, fInStr, fInSeq, fIsN, T.isNon, gSlot, gTupT, gsCons, gsNil, rSl, oNone, oSome, fSl, itemsF_fz, itemsF_fzc, trees_fzc, itemsF_lst, itemsF_tup, itemsF_str, itemsF_scr, itemsFT_tup, itemsFT_lst, itemsFT_str, itemsFT_scr, cut_to, frz_map, frz_cons, frz_nil, rIs, T.ty?, tyIs, rFld, look]
      exact hG'
end W
namespace W
open PySem L2 HTr
def seatsOf (w : List Nat) : List Nat := (List.range w.length).filter fun i => isAbc (w.getD i 0)
theorem filt_one {n k : Nat} {P : Nat → Bool} (hk : k < n) (h : ∀ i, i < n → P i = decide (i = k)) : (List.range n).filter P = [k] := by
  have e : (List.range n).filter P = (List.range n).filter fun i => decide (i = k) := List.filter_congr fun i hi => h i (by simpa using hi)
  rw [e]
  clear e h
  induction n with
  | zero => omega
  | succ n ih =>
    rw [List.range_succ, List.filter_append]
    by_cases q : k = n
    · subst q
      have : (List.range k).filter (fun i => decide (i = k)) = [] := by
        rw [List.filter_eq_nil_iff]
        intro i hi
        have : i < k := by simpa using hi
        simp; omega
      rw [this]; simp
    · rw [ih (by omega)]
      have : ¬ n = k := fun z => q z.symm
      simp [this]
theorem seats_one {p q : List Nat} {d : Nat} (h1 : isAbc d = true) (h2 : p.all (fun c => !isAbc c) = true) (h3 : q.all (fun c => !isAbc c) = true) : seatsOf (p ++ d :: q) = [p.length] := by
  refine filt_one (by simp) fun i hi => ?_
  rw [List.all_eq_true] at h2 h3
  rw [List.getD_eq_getElem?_getD]
  rcases Nat.lt_trichotomy i p.length with h | h | h
  · rw [List.getElem?_append_left h, List.getElem?_eq_getElem h]
    have := h2 p[i] (List.getElem_mem h)
    rw [decide_eq_false (by omega)]
    simpa using this
  · subst h
    simp [h1]
  · have hq : i - p.length - 1 < q.length := by simp at hi; omega
    rw [List.getElem?_append_right (by omega)]
    obtain ⟨m, hm⟩ : ∃ m, i - p.length = m + 1 := ⟨i - p.length - 1, by omega⟩
    rw [hm, List.getElem?_cons_succ, List.getElem?_eq_getElem (by omega)]
    have := h3 q[m] (List.getElem_mem _)
    rw [decide_eq_false (by omega)]
    simpa using this
theorem seats_cut {w : List Nat} {k : Nat} (h : seatsOf w = [k]) : k < w.length ∧ cutAbc w = some (w.take k, w.getD k 0, w.drop (k + 1)) := by
  have hk : k ∈ seatsOf w := by rw [h]; simp
  have h1 := List.mem_filter.mp hk
  have hl : k < w.length := by simpa using h1.1
  refine ⟨hl, ?_⟩
  have whole : w = w.take k ++ w.getD k 0 :: w.drop (k + 1) := by
    rw [List.getD_eq_getElem?_getD, List.getElem?_eq_getElem hl, Option.getD_some, ← List.drop_eq_getElem_cons, List.take_append_drop]
  have e : cutAbc (w.take k ++ w.getD k 0 :: w.drop (k + 1)) = some (w.take k, w.getD k 0, w.drop (k + 1)) := cutAbc_of h1.2 (by
    rw [List.all_eq_true]
    intro c hc
    obtain ⟨i, hi, rfl⟩ := List.mem_iff_getElem.mp hc
    have hik : i < k := by rw [List.length_take] at hi; omega
    cases q : isAbc (w.take k)[i] with
    | false => rfl
    | true =>
      have : i ∈ seatsOf w := List.mem_filter.mpr ⟨by simp; omega, by
        rw [List.getD_eq_getElem?_getD, List.getElem?_eq_getElem (by omega), Option.getD_some]
        rw [List.getElem_take] at q
        exact q⟩
      rw [h] at this
      simp at this; omega)
  rw [← whole] at e
  exact e
theorem arw_seats {w : List Nat} {n : Nat} {y : Arw} (h : arwIn w n = some y) : ∃ k, seatsOf w = [k] := by
  obtain ⟨p, d, q, a, b, rfl, h2, h3, h4, _⟩ := arwIn_iff.mp h
  exact ⟨_, seats_one h2 (dig_abc (numIn_some h3).2.2.2.2.2.1) (dig_abc (numIn_some h4).2.2.2.2.2.1)⟩
theorem abc_in (c : Nat) : (!(Builtin.Str.occurrences "abc" ⟨#[c]⟩ 0 ("abc" : Str).length 1).isEmpty) = isAbc c := by
  have oc := occ_one "abc" ⟨#[c]⟩ rfl
  rw [abc_cps] at oc
  refine oc.trans (decide_eq_decide.mpr ?_)
  show c ∈ [97, 98, 99] ↔ _
  simp
def spLawTieIn : SpT := spTieIn
theorem vc_law_tie_in : ∀ ls G, spLawTieIn ls G → m_law_tie_in spLawNumIn (endOf ls G) (start0 N_law_tie_in.length ls) := by
  rintro ls G ⟨x, n, rfl, hx, hn, hG⟩
  have hl := len_cps x
  have hz : 2000000 < sizeLine := by decide
  unfold m_law_tie_in
  refine seq_gen fun k1 hk1 => ?_
  replace hk1 := Hid.mk hk1
  simp [oNone, oSome, -List.map_take, -List.map_drop, cut_map, atI_lit, ixN_lit, fAdd, fI, fI0, sIf, sSet, sIx, sRetV, sRet, sRetN, sNext, sDrop, sAsg, tsAnd, tsOr, tsNot, tsV, rOp, rVar, rC, HTr.rIx, ixL, start0, fEq, eqAtom, strip_pin, strip_at, strip_non, strip_bl, strip_int, strip_str, strip_ftup, strip_flst, strip_fdct, strip_fobj, strip_box, strip_scr, strip_tup, strip_lst, strip_dct, strip_obj, L.tree, L.trees, L.isFz, rCa, fLen, aCons, aNil, fCmp, pVar, endOf, backs, rAndV, rOrV, rNotV, rIf, rChain, rLst, rTup, mkTup, fInStr, fInSeq, fIsN, T.isNon, gSlot, gTupT, gsCons, gsNil, rSl, oNone, oSome, fSl, itemsF_fz, itemsF_fzc, trees_fzc, itemsF_lst, itemsF_tup, itemsF_str, itemsF_scr, itemsFT_tup, itemsFT_lst, itemsFT_str, itemsFT_scr, cut_to, frz_map, frz_cons, frz_nil, rIs, T.ty?, tyIs, rFld, look]
  refine ⟨by omega, by decide, rfl, flatStrs mrks, ?_⟩
  have et : cutS x none (some 1) = SX.S (x.cps.toList.take 1) := cut_to_S x 1
  split
  · rename_i h
    have hm : (x.cps.toList.head?.map isPqr) = some true := (take1_mrks x).mp (et ▸ (inTup (cs := mrks)).mp h)
    clear h
    obtain ⟨c, r, hc⟩ : ∃ c r, x.cps.toList = c :: r := by
      cases e : x.cps.toList with
      | nil => rw [e] at hm; cases hm
      | cons c r => exact ⟨c, r, rfl⟩
    have e0 : x.cps[0]? = some c := by rw [← Array.getElem?_toList, hc]; rfl
    have ef : cutS x (some 1) none = SX.S r := by
      rw [show (1 : Int) = ((1 : Nat) : Int) from rfl, cut_from_S x 1, hc]; rfl
    have hG' : G (L.fz (rankT ((mrkIn (c :: r) n).map .inr))) [] := by
      have e : wTie x.cps.toList n = (mrkIn (c :: r) n).map .inr := by
        unfold wTie
        rw [if_pos hm, hc]
      rw [e] at hG; exact hG
    refine seq_gen fun k2 hk2 => ?_
    replace hk2 := Hid.mk hk2
    simp [rCallU, oNone, oSome, -List.map_take, -List.map_drop, cut_map, atI_lit, ixN_lit, fAdd, fI, fI0, sIf, sSet, sIx, sRetV, sRet, sRetN, sNext, sDrop, sAsg, tsAnd, tsOr, tsNot, tsV, rOp, rVar, rC, HTr.rIx, ixL, start0, fEq, eqAtom, strip_pin, strip_at, strip_non, strip_bl, strip_int, strip_str, strip_ftup, strip_flst, strip_fdct, strip_fobj, strip_box, strip_scr, strip_tup, strip_lst, strip_dct, strip_obj, L.tree, L.trees, L.isFz, rCa, fLen, aCons, aNil, fCmp, pVar, endOf, backs, rAndV, rOrV, rNotV, rIf, rChain, rLst, rTup, mkTup, fInStr, fInSeq, fIsN, T.isNon, gSlot, gTupT, gsCons, gsNil, rSl, oNone, oSome, fSl, itemsF_fz, itemsF_fzc, trees_fzc, itemsF_lst, itemsF_tup, itemsF_str, itemsF_scr, itemsFT_tup, itemsFT_lst, itemsFT_str, itemsFT_scr, cut_to, frz_map, frz_cons, frz_nil, rIs, T.ty?, tyIs, rFld, look]
    refine ⟨by omega, SX.S r, by rw [ef], by rw [SX.S_len]; rw [hc] at hl; simp at hl; omega, .inl (.inl rfl), ?_⟩
    refine hk2.h _ ?_
    clear hk2 k2
    rw [S_cps]
    refine seq_gen fun k2 hk2 => ?_
    replace hk2 := Hid.mk hk2
    simp [true_and, -List.map_take, -List.map_drop, cut_map, atI_lit, ixN_lit, fAdd, fI, fI0, sIf, sSet, sIx, sRetV, sRet, sRetN, sNext, sDrop, sAsg, tsAnd, tsOr, tsNot, tsV, rOp, rVar, rC, HTr.rIx, ixL, start0, fEq, eqAtom, strip_pin, strip_at, strip_non, strip_bl, strip_int, strip_str, strip_ftup, strip_flst, strip_fdct, strip_fobj, strip_box, strip_scr, strip_tup, strip_lst, strip_dct, strip_obj, L.tree, L.trees, L.isFz, rCa, fLen, aCons, aNil, fCmp, pVar, endOf, backs, rAndV, rOrV, rNotV, rIf, rChain, rLst, rTup, mkTup, fInStr, fInSeq, fIsN, T.isNon, gSlot, gTupT, gsCons, gsNil, rSl, oNone, oSome, fSl, itemsF_fz, itemsF_fzc, trees_fzc, itemsF_lst, itemsF_tup, itemsF_str, itemsF_scr, itemsFT_tup, itemsFT_lst, itemsFT_str, itemsFT_scr, cut_to, frz_map, frz_cons, frz_nil, rIs, T.ty?, tyIs, rFld, look]
    refine hk2.h _ ?_
    clear hk2 k2
    have this := hG'
    cases hr : numIn r with
    | none =>
      simp only [mrkIn, hr] at this
      have h99 : ¬ (99 < n) := by omega
      simp [Option.getD, -List.map_take, -List.map_drop, cut_map, atI_lit, ixN_lit, fAdd, fI, fI0, sIf, sSet, sIx, sRetV, sRet, sRetN, sNext, sDrop, sAsg, tsAnd, tsOr, tsNot, tsV, rOp, rVar, rC, HTr.rIx, ixL, start0, fEq, eqAtom, strip_pin, strip_at, strip_non, strip_bl, strip_int, strip_str, strip_ftup, strip_flst, strip_fdct, strip_fobj, strip_box, strip_scr, strip_tup, strip_lst, strip_dct, strip_obj, L.tree, L.trees, L.isFz, rCa, fLen, aCons, aNil, fCmp, pVar, endOf, backs, rAndV, rOrV, rNotV, rIf, rChain, rLst, rTup, mkTup, fInStr, fInSeq, fIsN, T.isNon, gSlot, gTupT, gsCons, gsNil, rSl, oNone, oSome, fSl, itemsF_fz, itemsF_fzc, trees_fzc, itemsF_lst, itemsF_tup, itemsF_str, itemsF_scr, itemsFT_tup, itemsFT_lst, itemsFT_str, itemsFT_scr, cut_to, frz_map, frz_cons, frz_nil, rIs, T.ty?, tyIs, rFld, look]
      rw [if_neg (by omega)]
      exact this
    | some k =>
      simp only [mrkIn, hr] at this
      by_cases hkn : k < n
      · rw [if_pos hkn] at this
        simp [Option.getD, -List.map_take, -List.map_drop, cut_map, atI_lit, ixN_lit, fAdd, fI, fI0, sIf, sSet, sIx, sRetV, sRet, sRetN, sNext, sDrop, sAsg, tsAnd, tsOr, tsNot, tsV, rOp, rVar, rC, HTr.rIx, ixL, start0, fEq, eqAtom, strip_pin, strip_at, strip_non, strip_bl, strip_int, strip_str, strip_ftup, strip_flst, strip_fdct, strip_fobj, strip_box, strip_scr, strip_tup, strip_lst, strip_dct, strip_obj, L.tree, L.trees, L.isFz, rCa, fLen, aCons, aNil, fCmp, pVar, endOf, backs, rAndV, rOrV, rNotV, rIf, rChain, rLst, rTup, mkTup, fInStr, fInSeq, fIsN, T.isNon, gSlot, gTupT, gsCons, gsNil, rSl, oNone, oSome, fSl, itemsF_fz, itemsF_fzc, trees_fzc, itemsF_lst, itemsF_tup, itemsF_str, itemsF_scr, itemsFT_tup, itemsFT_lst, itemsFT_str, itemsFT_scr, cut_to, frz_map, frz_cons, frz_nil, rIs, T.ty?, tyIs, rFld, look]
        rw [if_pos (by omega), e0]
        exact ⟨by omega, by decide, this⟩
      · rw [if_neg hkn] at this
        simp [Option.getD, -List.map_take, -List.map_drop, cut_map, atI_lit, ixN_lit, fAdd, fI, fI0, sIf, sSet, sIx, sRetV, sRet, sRetN, sNext, sDrop, sAsg, tsAnd, tsOr, tsNot, tsV, rOp, rVar, rC, HTr.rIx, ixL, start0, fEq, eqAtom, strip_pin, strip_at, strip_non, strip_bl, strip_int, strip_str, strip_ftup, strip_flst, strip_fdct, strip_fobj, strip_box, strip_scr, strip_tup, strip_lst, strip_dct, strip_obj, L.tree, L.trees, L.isFz, rCa, fLen, aCons, aNil, fCmp, pVar, endOf, backs, rAndV, rOrV, rNotV, rIf, rChain, rLst, rTup, mkTup, fInStr, fInSeq, fIsN, T.isNon, gSlot, gTupT, gsCons, gsNil, rSl, oNone, oSome, fSl, itemsF_fz, itemsF_fzc, trees_fzc, itemsF_lst, itemsF_tup, itemsF_str, itemsF_scr, itemsFT_tup, itemsFT_lst, itemsFT_str, itemsFT_scr, cut_to, frz_map, frz_cons, frz_nil, rIs, T.ty?, tyIs, rFld, look]
        rw [if_neg (by omega)]
        exact this
  · rename_i h
    have hm : ¬ (x.cps.toList.head?.map isPqr) = some true := fun z => h ((inTup (cs := mrks)).mpr (et ▸ (take1_mrks x).mpr z))
    clear h
    have hG' : G (L.fz (rankT ((arwIn x.cps.toList n).map .inl))) [] := by
      have e : wTie x.cps.toList n = (arwIn x.cps.toList n).map .inl := by
        unfold wTie
        rw [if_neg hm]
      rw [e] at hG; exact hG
    clear hG
    refine hk1.h _ ?_
    clear hk1 k1
    refine seq_gen fun k1 hk1 => ?_
    replace hk1 := Hid.mk hk1
    simp [rCompR1, -List.map_take, -List.map_drop, cut_map, atI_lit, ixN_lit, fAdd, fI, fI0, sIf, sSet, sIx, sRetV, sRet, sRetN, sNext, sDrop, sAsg, tsAnd, tsOr, tsNot, tsV, rOp, rVar, rC, HTr.rIx, ixL, start0, fEq, eqAtom, strip_pin, strip_at, strip_non, strip_bl, strip_int, strip_str, strip_ftup, strip_flst, strip_fdct, strip_fobj, strip_box, strip_scr, strip_tup, strip_lst, strip_dct, strip_obj, L.tree, L.trees, L.isFz, rCa, fLen, aCons, aNil, fCmp, pVar, endOf, backs, rAndV, rOrV, rNotV, rIf, rChain, rLst, rTup, mkTup, fInStr, fInSeq, fIsN, T.isNon, gSlot, gTupT, gsCons, gsNil, rSl, oNone, oSome, fSl, itemsF_fz, itemsF_fzc, trees_fzc, itemsF_lst, itemsF_tup, itemsF_str, itemsF_scr, itemsFT_tup, itemsFT_lst, itemsFT_str, itemsFT_scr, cut_to, frz_map, frz_cons, frz_nil, rIs, T.ty?, tyIs, rFld, look]
    refine ⟨by omega, by omega, ?_⟩
    show compL _ _ _ ((List.range x.length).map fun (i : Nat) => T.int (0 + (i : Int))) _ _ _
    refine compL_det (f := fun i => .fz (.int (i : Nat))) (p := fun i => isAbc (x.cps.toList.getD i 0)) (fun i hi X Y hX hY => ?_) (by simp; omega) ?_
    · have hi' : i < x.length := by simpa using hi
      have e0 : (0 : Int) + (i : Int) = (i : Int) := by omega
      have ea : atI x.cps.toList (i : Int) = some (x.cps.toList.getD i 0) := by
        rw [atI_of _ _ (by omega), Int.toNat_natCast, List.getD_eq_getElem?_getD, List.getElem?_eq_getElem (by omega)]; rfl
      rw [e0]
      simp [wipeS, -List.map_take, -List.map_drop, cut_map, atI_lit, ixN_lit, fAdd, fI, fI0, sIf, sSet, sIx, sRetV, sRet, sRetN, sNext, sDrop, sAsg, tsAnd, tsOr, tsNot, tsV, rOp, rVar, rC, HTr.rIx, ixL, start0, fEq, eqAtom, strip_pin, strip_at, strip_non, strip_bl, strip_int, strip_str, strip_ftup, strip_flst, strip_fdct, strip_fobj, strip_box, strip_scr, strip_tup, strip_lst, strip_dct, strip_obj, L.tree, L.trees, L.isFz, rCa, fLen, aCons, aNil, fCmp, pVar, endOf, backs, rAndV, rOrV, rNotV, rIf, rChain, rLst, rTup, mkTup, fInStr, fInSeq, fIsN, T.isNon, gSlot, gTupT, gsCons, gsNil, rSl, oNone, oSome, fSl, itemsF_fz, itemsF_fzc, trees_fzc, itemsF_lst, itemsF_tup, itemsF_str, itemsF_scr, itemsFT_tup, itemsFT_lst, itemsFT_str, itemsFT_scr, cut_to, frz_map, frz_cons, frz_nil, rIs, T.ty?, tyIs, rFld, look]
      rw [ea]
      have ai := abc_in (x.cps.toList.getD i 0)
      have ai' : (!(Builtin.Str.occurrences (Str.ofString "abc") ⟨#[x.cps.toList.getD i 0]⟩ 0 (Str.ofString "abc").length 1).isEmpty) = isAbc (x.cps.toList.getD i 0) := ai
      refine ⟨by omega, ?_⟩
      dsimp only
      cases hb : isAbc (x.cps.toList.getD i 0) with
      | true =>
        rw [hb] at ai'
        rw [if_neg (by simpa using ai')]
        exact hX hb
      | false =>
        rw [hb] at ai'
        rw [if_pos (by simpa using ai')]
        exact hY hb
    have eS : L.trees ([] ++ List.map (fun (i : Nat) => L.fz (T.int i)) (List.filter (fun i => isAbc (x.cps.toList.getD i 0)) (List.range x.length))) = (seatsOf x.cps.toList).map fun (i : Nat) => T.int i := by
      rw [List.nil_append, L.trees_eq, List.map_map, hl]
      rfl
    rw [eS]
    refine hk1.h _ ?_
    clear hk1 k1 eS
    refine seq_gen fun k1 hk1 => ?_
    replace hk1 := Hid.mk hk1
    simp [true_and, -List.map_take, -List.map_drop, cut_map, atI_lit, ixN_lit, fAdd, fI, fI0, sIf, sSet, sIx, sRetV, sRet, sRetN, sNext, sDrop, sAsg, tsAnd, tsOr, tsNot, tsV, rOp, rVar, rC, HTr.rIx, ixL, start0, fEq, eqAtom, strip_pin, strip_at, strip_non, strip_bl, strip_int, strip_str, strip_ftup, strip_flst, strip_fdct, strip_fobj, strip_box, strip_scr, strip_tup, strip_lst, strip_dct, strip_obj, L.tree, L.trees, L.isFz, rCa, fLen, aCons, aNil, fCmp, pVar, endOf, backs, rAndV, rOrV, rNotV, rIf, rChain, rLst, rTup, mkTup, fInStr, fInSeq, fIsN, T.isNon, gSlot, gTupT, gsCons, gsNil, rSl, oNone, oSome, fSl, itemsF_fz, itemsF_fzc, trees_fzc, itemsF_lst, itemsF_tup, itemsF_str, itemsF_scr, itemsFT_tup, itemsFT_lst, itemsFT_str, itemsFT_scr, cut_to, frz_map, frz_cons, frz_nil, rIs, T.ty?, tyIs, rFld, look]
    by_cases h1 : (seatsOf x.cps.toList).length = 1
    rotate_left
    · first | rw [if_neg h1] | rw [if_neg (by omega)]
      cases hr : arwIn x.cps.toList n with
      | none => rw [hr] at hG'; exact hG'
      | some y =>
        obtain ⟨k, hk⟩ := arw_seats hr
        exact absurd (by rw [hk]; rfl) h1
    first | rw [if_pos h1] | rw [if_pos (by omega)]
    obtain ⟨k, hk⟩ := List.length_eq_one_iff.mp h1
    obtain ⟨hkl, hcut⟩ := seats_cut hk
    refine hk1.h _ ?_
    clear hk1 k1
    rw [hk]
    refine seq_gen fun k1 hk1 => ?_
    replace hk1 := Hid.mk hk1
    simp [true_and, -List.map_take, -List.map_drop, cut_map, atI_lit, ixN_lit, fAdd, fI, fI0, sIf, sSet, sIx, sRetV, sRet, sRetN, sNext, sDrop, sAsg, tsAnd, tsOr, tsNot, tsV, rOp, rVar, rC, HTr.rIx, ixL, start0, fEq, eqAtom, strip_pin, strip_at, strip_non, strip_bl, strip_int, strip_str, strip_ftup, strip_flst, strip_fdct, strip_fobj, strip_box, strip_scr, strip_tup, strip_lst, strip_dct, strip_obj, L.tree, L.trees, L.isFz, rCa, fLen, aCons, aNil, fCmp, pVar, endOf, backs, rAndV, rOrV, rNotV, rIf, rChain, rLst, rTup, mkTup, fInStr, fInSeq, fIsN, T.isNon, gSlot, gTupT, gsCons, gsNil, rSl, oNone, oSome, fSl, itemsF_fz, itemsF_fzc, trees_fzc, itemsF_lst, itemsF_tup, itemsF_str, itemsF_scr, itemsFT_tup, itemsFT_lst, itemsFT_str, itemsFT_scr, cut_to, frz_map, frz_cons, frz_nil, rIs, T.ty?, tyIs, rFld, look]
    refine hk1.h _ ?_
    clear hk1 k1
    refine seq_gen fun k1 hk1 => ?_
    replace hk1 := Hid.mk hk1
    have ec1 : cutS x none (some (k : Int)) = SX.S (x.cps.toList.take k) := cut_to_S x k
    have ec2 : cutS x (some ((k : Int) + 1)) none = SX.S (x.cps.toList.drop (k + 1)) := cut_from_S x (k + 1)
    have ea : atI x.cps.toList (k : Int) = some (x.cps.toList.getD k 0) := by
      rw [atI_of _ _ (by omega), Int.toNat_natCast, List.getD_eq_getElem?_getD, List.getElem?_eq_getElem (by omega)]; rfl
    simp [rCallU, oNone, oSome, -List.map_take, -List.map_drop, cut_map, atI_lit, ixN_lit, fAdd, fI, fI0, sIf, sSet, sIx, sRetV, sRet, sRetN, sNext, sDrop, sAsg, tsAnd, tsOr, tsNot, tsV, rOp, rVar, rC, HTr.rIx, ixL, start0, fEq, eqAtom, strip_pin, strip_at, strip_non, strip_bl, strip_int, strip_str, strip_ftup, strip_flst, strip_fdct, strip_fobj, strip_box, strip_scr, strip_tup, strip_lst, strip_dct, strip_obj, L.tree, L.trees, L.isFz, rCa, fLen, aCons, aNil, fCmp, pVar, endOf, backs, rAndV, rOrV, rNotV, rIf, rChain, rLst, rTup, mkTup, fInStr, fInSeq, fIsN, T.isNon, gSlot, gTupT, gsCons, gsNil, rSl, oNone, oSome, fSl, itemsF_fz, itemsF_fzc, trees_fzc, itemsF_lst, itemsF_tup, itemsF_str, itemsF_scr, itemsFT_tup, itemsFT_lst, itemsFT_str, itemsFT_scr, cut_to, frz_map, frz_cons, frz_nil, rIs, T.ty?, tyIs, rFld, look]
    rw [ec1]
    refine ⟨by omega, _, rfl, by rw [SX.S_len, List.length_take]; omega, .inl (.inl rfl), ?_⟩
    rw [S_cps]
    refine hk1.h _ ?_
    clear hk1 k1
    refine seq_gen fun k1 hk1 => ?_
    replace hk1 := Hid.mk hk1
    simp [rCallU, oNone, oSome, -List.map_take, -List.map_drop, cut_map, atI_lit, ixN_lit, fAdd, fI, fI0, sIf, sSet, sIx, sRetV, sRet, sRetN, sNext, sDrop, sAsg, tsAnd, tsOr, tsNot, tsV, rOp, rVar, rC, HTr.rIx, ixL, start0, fEq, eqAtom, strip_pin, strip_at, strip_non, strip_bl, strip_int, strip_str, strip_ftup, strip_flst, strip_fdct, strip_fobj, strip_box, strip_scr, strip_tup, strip_lst, strip_dct, strip_obj, L.tree, L.trees, L.isFz, rCa, fLen, aCons, aNil, fCmp, pVar, endOf, backs, rAndV, rOrV, rNotV, rIf, rChain, rLst, rTup, mkTup, fInStr, fInSeq, fIsN, T.isNon, gSlot, gTupT, gsCons, gsNil, rSl, oNone, oSome, fSl, itemsF_fz, itemsF_fzc, trees_fzc, itemsF_lst, itemsF_tup, itemsF_str, itemsF_scr, itemsFT_tup, itemsFT_lst, itemsFT_str, itemsFT_scr, cut_to, frz_map, frz_cons, frz_nil, rIs, T.ty?, tyIs, rFld, look]
    rw [ec2]
    refine ⟨by omega, _, rfl, by rw [SX.S_len, List.length_drop]; omega, .inl (.inl rfl), ?_⟩
    rw [S_cps]
    refine hk1.h _ ?_
    clear hk1 k1
    have hr : ∀ a b, numIn (x.cps.toList.take k) = some a → numIn (x.cps.toList.drop (k + 1)) = some b → a < n ∧ b < n → G (.fz (.tup [.int 0, .str ⟨#[x.cps.toList.getD k 0]⟩, .int (a : Nat), .int (b : Nat)])) [] := fun a b h3 h4 h5 => by
      unfold arwIn at hG'
      rw [hcut] at hG'
      dsimp only at hG'
      rw [h3, h4] at hG'
      dsimp only at hG'
      rw [if_pos h5] at hG'
      exact hG'
    have hno : (∀ a b, numIn (x.cps.toList.take k) = some a → numIn (x.cps.toList.drop (k + 1)) = some b → ¬ (a < n ∧ b < n)) → G (.fz .non) [] := fun h => by
      have : arwIn x.cps.toList n = none := by
        cases e : arwIn x.cps.toList n with
        | none => rfl
        | some y =>
          obtain ⟨p, d, q, a, b, e1, h2, h3, h4, h5, h6, _⟩ := arwIn_iff.mp e
          have e2 := cutAbc_of (q := q) h2 (dig_abc (numIn_some h3).2.2.2.2.2.1)
          rw [← e1, hcut] at e2
          cases e2
          exact absurd ⟨h5, h6⟩ (h a b h3 h4)
      rw [this] at hG'
      exact hG'
    have b99 : ∀ w, ((numIn w).getD 99 < n ↔ ∃ a, numIn w = some a ∧ a < n) := fun w => by
      cases h : numIn w with
      | none => simp; omega
      | some a => simp
    clear ec1 ec2
    cases h3 : numIn (x.cps.toList.take k) with
    | none =>
      have g : G (.fz .non) [] := hno fun a b h => by rw [h3] at h; cases h
      simp [fMax2, Option.getD, -List.map_take, -List.map_drop, cut_map, atI_lit, ixN_lit, fAdd, fI, fI0, sIf, sSet, sIx, sRetV, sRet, sRetN, sNext, sDrop, sAsg, tsAnd, tsOr, tsNot, tsV, rOp, rVar, rC, HTr.rIx, ixL, start0, fEq, eqAtom, strip_pin, strip_at, strip_non, strip_bl, strip_int, strip_str, strip_ftup, strip_flst, strip_fdct, strip_fobj, strip_box, strip_scr, strip_tup, strip_lst, strip_dct, strip_obj, L.tree, L.trees, L.isFz, rCa, fLen, aCons, aNil, fCmp, pVar, endOf, backs, rAndV, rOrV, rNotV, rIf, rChain, rLst, rTup, mkTup, fInStr, fInSeq, fIsN, T.isNon, gSlot, gTupT, gsCons, gsNil, rSl, oNone, oSome, fSl, itemsF_fz, itemsF_fzc, trees_fzc, itemsF_lst, itemsF_tup, itemsF_str, itemsF_scr, itemsFT_tup, itemsFT_lst, itemsFT_str, itemsFT_scr, cut_to, frz_map, frz_cons, frz_nil, rIs, T.ty?, tyIs, rFld, look]
      rw [if_neg (by split <;> omega)]
      exact g
    | some a =>
      cases h4 : numIn (x.cps.toList.drop (k + 1)) with
      | none =>
        have g : G (.fz .non) [] := hno fun a b _ h => by rw [h4] at h; cases h
        simp [fMax2, Option.getD, -List.map_take, -List.map_drop, cut_map, atI_lit, ixN_lit, fAdd, fI, fI0, sIf, sSet, sIx, sRetV, sRet, sRetN, sNext, sDrop, sAsg, tsAnd, tsOr, tsNot, tsV, rOp, rVar, rC, HTr.rIx, ixL, start0, fEq, eqAtom, strip_pin, strip_at, strip_non, strip_bl, strip_int, strip_str, strip_ftup, strip_flst, strip_fdct, strip_fobj, strip_box, strip_scr, strip_tup, strip_lst, strip_dct, strip_obj, L.tree, L.trees, L.isFz, rCa, fLen, aCons, aNil, fCmp, pVar, endOf, backs, rAndV, rOrV, rNotV, rIf, rChain, rLst, rTup, mkTup, fInStr, fInSeq, fIsN, T.isNon, gSlot, gTupT, gsCons, gsNil, rSl, oNone, oSome, fSl, itemsF_fz, itemsF_fzc, trees_fzc, itemsF_lst, itemsF_tup, itemsF_str, itemsF_scr, itemsFT_tup, itemsFT_lst, itemsFT_str, itemsFT_scr, cut_to, frz_map, frz_cons, frz_nil, rIs, T.ty?, tyIs, rFld, look]
        rw [if_neg (by split <;> omega)]
        exact g
      | some b =>
        by_cases hab : a < n ∧ b < n
        · have hG2 := hr a b h3 h4 hab
          simp [fMax2, Option.getD, -List.map_take, -List.map_drop, cut_map, atI_lit, ixN_lit, fAdd, fI, fI0, sIf, sSet, sIx, sRetV, sRet, sRetN, sNext, sDrop, sAsg, tsAnd, tsOr, tsNot, tsV, rOp, rVar, rC, HTr.rIx, ixL, start0, fEq, eqAtom, strip_pin, strip_at, strip_non, strip_bl, strip_int, strip_str, strip_ftup, strip_flst, strip_fdct, strip_fobj, strip_box, strip_scr, strip_tup, strip_lst, strip_dct, strip_obj, L.tree, L.trees, L.isFz, rCa, fLen, aCons, aNil, fCmp, pVar, endOf, backs, rAndV, rOrV, rNotV, rIf, rChain, rLst, rTup, mkTup, fInStr, fInSeq, fIsN, T.isNon, gSlot, gTupT, gsCons, gsNil, rSl, oNone, oSome, fSl, itemsF_fz, itemsF_fzc, trees_fzc, itemsF_lst, itemsF_tup, itemsF_str, itemsF_scr, itemsFT_tup, itemsFT_lst, itemsFT_str, itemsFT_scr, cut_to, frz_map, frz_cons, frz_nil, rIs, T.ty?, tyIs, rFld, look]
          rw [if_pos (by split <;> omega), ea]
          exact ⟨by omega, by decide, hG2⟩
        · have hG2 := hno fun a' b' h h' => by
            rw [h3] at h; rw [h4] at h'
            cases h; cases h'
            exact hab
          simp [fMax2, Option.getD, -List.map_take, -List.map_drop, cut_map, atI_lit, ixN_lit, fAdd, fI, fI0, sIf, sSet, sIx, sRetV, sRet, sRetN, sNext, sDrop, sAsg, tsAnd, tsOr, tsNot, tsV, rOp, rVar, rC, HTr.rIx, ixL, start0, fEq, eqAtom, strip_pin, strip_at, strip_non, strip_bl, strip_int, strip_str, strip_ftup, strip_flst, strip_fdct, strip_fobj, strip_box, strip_scr, strip_tup, strip_lst, strip_dct, strip_obj, L.tree, L.trees, L.isFz, rCa, fLen, aCons, aNil, fCmp, pVar, endOf, backs, rAndV, rOrV, rNotV, rIf, rChain, rLst, rTup, mkTup, fInStr, fInSeq, fIsN, T.isNon, gSlot, gTupT, gsCons, gsNil, rSl, oNone, oSome, fSl, itemsF_fz, itemsF_fzc, trees_fzc, itemsF_lst, itemsF_tup, itemsF_str, itemsF_scr, itemsFT_tup, itemsFT_lst, itemsFT_str, itemsFT_scr, cut_to, frz_map, frz_cons, frz_nil, rIs, T.ty?, tyIs, rFld, look]
          rw [if_neg (by split <;> omega)]
          exact hG2
end W
namespace W
open PySem L2 HTr
theorem ckey_inj {a b : Key} (h : ckey a = ckey b) : a = b := by
  cases a <;> cases b
  · cases h; rfl
  · cases h
  · cases h
  · rename_i x y
    have : x.cps.toList = y.cps.toList := Sum.inr.inj h
    have e : x = y := by rw [str_S x, str_S y, this]
    rw [e]
theorem keyLe_lt : ∀ {a b : Key} {shape : Nat → Bool} {i : Nat} {as bs : List Key}, shp shape i (a :: as) = true → shp shape i (b :: bs) = true → keyLe a b = !PyProof.Rows.itemOrd.blt (ckey b) (ckey a)
  | .inl i, .inl j, _, _, _, _, _, _ => by
    show decide (i ≤ j) = !decide (j < i)
    by_cases h : i ≤ j
    · rw [decide_eq_true h, decide_eq_false (by omega)]; rfl
    · rw [decide_eq_false h, decide_eq_true (by omega)]; rfl
  | .inr x, .inr y, _, _, _, _, _, _ => by
    rfl
  | .inl i, .inr y, shape, k, as, bs, h1, h2 => by
    unfold shp at h1 h2
    rw [Bool.and_eq_true] at h1 h2
    have := h1.1
    rw [h2.1] at this
    cases this
  | .inr x, .inl j, shape, k, as, bs, h1, h2 => by
    unfold shp at h1 h2
    rw [Bool.and_eq_true] at h1 h2
    have := h2.1
    rw [h1.1] at this
    cases this
theorem leK_clt : ∀ {as bs : List Key} {shape : Nat → Bool} {i : Nat}, shp shape i as = true → shp shape i bs = true → leK as bs = !clt (bs.map ckey) (as.map ckey)
  | [], [], _, _, _, _ => rfl
  | [], b :: bs, _, _, _, _ => rfl
  | a :: as, [], _, _, _, _ => rfl
  | a :: as, b :: bs, shape, i, h1, h2 => by
    unfold leK
    by_cases e : a = b
    · subst e
      rw [if_pos rfl]
      have h1' : shp shape (i + 1) as = true := by cases a <;> (unfold shp at h1; rw [Bool.and_eq_true] at h1; exact h1.2)
      have h2' : shp shape (i + 1) bs = true := by cases a <;> (unfold shp at h2; rw [Bool.and_eq_true] at h2; exact h2.2)
      rw [leK_clt h1' h2']
      show _ = !PyProof.Rows.lexLt PyProof.Rows.itemOrd (ckey a :: bs.map ckey) (ckey a :: as.map ckey)
      rw [PyProof.Rows.lex_self]
      rfl
    · rw [if_neg e, keyLe_lt h1 h2]
      show _ = !PyProof.Rows.lexLt PyProof.Rows.itemOrd (ckey b :: bs.map ckey) (ckey a :: as.map ckey)
      rw [PyProof.Rows.lex_diff fun z => e (ckey_inj z).symm]
abbrev tieShape : Nat → Bool := fun i => i == 1
theorem rank_shp (t : Tie) : shp tieShape 0 (rankK t) = true := by cases t <;> rfl
def tLt (s t : Tie) : Bool := clt ((rankK s).map ckey) ((rankK t).map ckey)
theorem leK_rank (s t : Tie) : leK (rankK t) (rankK s) = !tLt s t := leK_clt (rank_shp t) (rank_shp s)
theorem tLt_trans {a b c : Tie} (h1 : tLt a b = true) (h2 : tLt b c = true) : tLt a c = true := PyProof.Rows.lex_trans _ _ _ h1 h2
theorem tLt_irr (a : Tie) : tLt a a = false := PyProof.Rows.lex_irrefl _
theorem tLt_asym {a b : Tie} (h : tLt a b = true) : tLt b a = false := by
  cases e : tLt b a with
  | false => rfl
  | true => exact absurd (tLt_trans h e) (by rw [tLt_irr]; decide)
def tOk (n : Nat) : Tie → Prop
  | .inl y => y.ok n
  | .inr m => m.ok n
def tieS : Tie → Str
  | .inl y => arwS y
  | .inr m => mrkS m
def ranksW (n : Nat) : List Tie → Nat → List Str → Nat ⊕ List Tie
  | found, _, [] => .inr found
  | found, at_, w :: ws => match wTie w.cps.toList n with
    | none => .inl at_
    | some t => if (found.getLast?.any fun l => leK (rankK t) (rankK l)) = true then .inl at_ else ranksW n (found ++ [t]) (at_ + 1) ws
def arwsOf (ts : List Tie) : List Arw := ts.filterMap fun t => match t with
  | .inl y => some y
  | .inr _ => none
def mrksOf (ts : List Tie) : List Mrk := ts.filterMap fun t => match t with
  | .inl _ => none
  | .inr m => some m
theorem wTie_ok {w : List Nat} {n : Nat} {t : Tie} (h : wTie w n = some t) : tOk n t ∧ SX.S w = tieS t := by
  unfold wTie at h
  split at h
  · rename_i hm
    cases e : mrkIn w n with
    | none => rw [e] at h; cases h
    | some m =>
      rw [e] at h
      have : t = .inr m := (Option.some.inj h).symm
      subst this
      cases w with
      | nil => cases hm
      | cons c r =>
        have hc : isPqr c = true := by simpa using hm
        unfold mrkIn at e
        dsimp only at e
        cases er : numIn r with
        | none => rw [er] at e; cases e
        | some k =>
          rw [er] at e
          dsimp only at e
          split at e
          · rename_i hk
            have : m = ⟨⟨#[c]⟩, k⟩ := (Option.some.inj e).symm
            subst this
            refine ⟨⟨(pqr_mrks c).mpr hc, hk⟩, ?_⟩
            show _ = (⟨#[c]⟩ : Str) ++ numS k
            rw [← (numIn_some er).2.1]
            exact (SX.S_cat [c] r).symm
          · cases e
  · cases e : arwIn w n with
    | none => rw [e] at h; cases h
    | some y =>
      rw [e] at h
      have : t = .inl y := (Option.some.inj h).symm
      subst this
      obtain ⟨p, d, q, a, b, rfl, h2, h3, h4, h5, h6, rfl⟩ := arwIn_iff.mp e
      refine ⟨⟨of_decide_eq_true ((abc_cols d).trans h2), h5, h6⟩, ?_⟩
      show _ = numS a ++ (⟨#[d]⟩ : Str) ++ numS b
      rw [← (numIn_some h3).2.1, ← (numIn_some h4).2.1]
      have e1 : (⟨#[d]⟩ : Str) = SX.S [d] := rfl
      rw [e1, SX.S_cat, SX.S_cat]
      simp
theorem ranks_facts (n : Nat) : ∀ (ws : List Str) (found : List Tie) (at_ : Nat) (ts : List Tie), found.Pairwise (fun s t => tLt s t = true) → (∀ t ∈ found, tOk n t) → ranksW n found at_ ws = .inr ts →
    ts.Pairwise (fun s t => tLt s t = true) ∧ (∀ t ∈ ts, tOk n t) ∧ ts.length = found.length + ws.length ∧ ts.map tieS = found.map tieS ++ ws
  | [], found, at_, ts, hp, ho, e => by
    cases e
    exact ⟨hp, ho, by simp, by simp⟩
  | w :: ws, found, at_, ts, hp, ho, e => by
    unfold ranksW at e
    cases hw : wTie w.cps.toList n with
    | none => rw [hw] at e; cases e
    | some t =>
      rw [hw] at e
      dsimp only at e
      split at e
      · cases e
      · rename_i hl
        obtain ⟨ok, tx⟩ := wTie_ok hw
        obtain ⟨h1, h2, h3, h4⟩ := ranks_facts n ws _ _ ts (List.pairwise_append.mpr ⟨hp, by simp, fun a ha b hb => by
          have : b = t := by simpa using hb
          subst this
          obtain ⟨pre, l, rfl⟩ : ∃ pre l, found = pre ++ [l] := ⟨found.dropLast, found.getLast (by intro z; rw [z] at ha; cases ha), (List.dropLast_concat_getLast _).symm⟩
          have hl2 : tLt l b = true := by
            rw [List.getLast?_append, List.getLast?_singleton] at hl
            simp only [Option.some_or, Option.any_some, leK_rank] at hl
            simpa using hl
          rcases List.mem_append.mp ha with z | z
          · exact tLt_trans ((List.pairwise_append.mp hp).2.2 a z l (by simp)) hl2
          · have : a = l := by simpa using z
            subst this; exact hl2⟩) (fun u hu => by
          rcases List.mem_append.mp hu with z | z
          · exact ho u z
          · have : u = t := by simpa using z
            subst this; exact ok) e
        refine ⟨h1, h2, by simp at h3 ⊢; omega, ?_⟩
        rw [h4]
        simp only [List.map_append, List.map_cons, List.map_nil, List.append_assoc]
        rw [← tx, SX.S_tl]
        rfl
theorem rise_split : ∀ {ts : List Tie}, ts.Pairwise (fun s t => tLt s t = true) → ts = (arwsOf ts).map .inl ++ (mrksOf ts).map .inr
  | [], _ => rfl
  | .inl y :: ts, h => by
    have h2 := List.pairwise_cons.mp h
    have ih := rise_split h2.2
    show _ :: ts = _ :: ((arwsOf ts).map Sum.inl ++ (mrksOf ts).map Sum.inr)
    rw [← ih]
  | .inr m :: ts, h => by
    have h2 := List.pairwise_cons.mp h
    have ih := rise_split h2.2
    have e : arwsOf ts = [] := by
      cases q : arwsOf ts with
      | nil => rfl
      | cons y r =>
        have hy : (Sum.inl y : Tie) ∈ ts := by rw [ih, q]; simp
        have := h2.1 _ hy
        have e3 : tLt (.inr m) (.inl y) = false := by
          show PyProof.Rows.lexLt PyProof.Rows.itemOrd (ckey (.inl 1) :: [ckey (.inr m.c), ckey (.inl m.a)]) (ckey (.inl 0) :: [ckey (.inr y.c), ckey (.inl y.a), ckey (.inl y.b)]) = false
          rw [PyProof.Rows.lex_diff (by decide)]
          decide
        rw [e3] at this
        cases this
    show _ :: ts = (arwsOf ts).map Sum.inl ++ _ :: (mrksOf ts).map Sum.inr
    rw [e, List.map_nil, List.nil_append]
    rw [e] at ih
    exact congrArg _ ih
theorem rise_srt {as : List Arw} {ms : List Mrk} (h : (as.map Sum.inl ++ ms.map Sum.inr : List Tie).Pairwise (fun s t => tLt s t = true)) : SrtA as as ∧ SrtM ms ms := by
  obtain ⟨h1, h2, _⟩ := List.pairwise_append.mp h
  rw [List.pairwise_map] at h1 h2
  have ea : ∀ x y : Arw, tLt (.inl x) (.inl y) = clt (x.k.map ckey) (y.k.map ckey) := fun x y => by
    show PyProof.Rows.lexLt PyProof.Rows.itemOrd (ckey (.inl 0) :: x.k.map ckey) (ckey (.inl 0) :: y.k.map ckey) = _
    exact PyProof.Rows.lex_self _ _ _
  have em : ∀ x y : Mrk, tLt (.inr x) (.inr y) = clt (x.k.map ckey) (y.k.map ckey) := fun x y => by
    show PyProof.Rows.lexLt PyProof.Rows.itemOrd (ckey (.inl 1) :: x.k.map ckey) (ckey (.inl 1) :: y.k.map ckey) = _
    exact PyProof.Rows.lex_self _ _ _
  refine ⟨⟨h1.imp fun {a b} z e => (by subst e; rw [tLt_irr] at z; cases z), fun _ => Iff.rfl, ?_⟩, ⟨h2.imp fun {a b} z e => (by subst e; rw [tLt_irr] at z; cases z), fun _ => Iff.rfl, ?_⟩⟩
  · unfold kOrd
    rw [List.pairwise_map]
    exact h1.imp fun {a b} z => by rw [← ea]; exact tLt_asym z
  · unfold kOrd
    rw [List.pairwise_map]
    exact h2.imp fun {a b} z => by rw [← em]; exact tLt_asym z
def readW (x : Str) : Nat ⊕ Wb := match Txt.split x " " with
  | [] => .inl 0
  | w :: ws => match numIn w.cps.toList with
    | none => .inl 0
    | some n => if 81 < n then .inl 0 else match ranksW n [] 0 ws with
      | .inl i => .inl (i + 1)
      | .inr ts => .inr ⟨n, arwsOf ts, mrksOf ts⟩
theorem spl1_ne (c : Nat) : ∀ (l acc : List Nat), spl1 c acc l ≠ []
  | [], acc => by simp [spl1]
  | x :: r, acc => by
    unfold spl1
    split
    · simp
    · exact spl1_ne c r _
theorem joinL_spl1 (c : Nat) : ∀ (l acc : List Nat), TL.joinL [c] (spl1 c acc l) = acc ++ l
  | [], acc => by simp [spl1, TL.joinL]
  | x :: r, acc => by
    unfold spl1
    split
    · rename_i h
      subst h
      have ih := joinL_spl1 x r []
      cases e : spl1 x [] r with
      | nil => exact absurd e (spl1_ne x r [])
      | cons q s =>
        show acc ++ ([x] ++ TL.joinL [x] (q :: s)) = _
        rw [← e, ih]
        rfl
    · rw [joinL_spl1 c r (acc ++ [x])]
      simp
theorem readW_ok {x : Str} {w : Wb} (h : readW x = .inr w) : w.ok ∧ w.text = x := by
  unfold readW at h
  cases hs : Txt.split x " " with
  | nil => rw [hs] at h; cases h
  | cons w0 ws =>
    rw [hs] at h
    dsimp only at h
    cases hn : numIn w0.cps.toList with
    | none => rw [hn] at h; cases h
    | some n =>
      rw [hn] at h
      dsimp only at h
      split at h
      · cases h
      · rename_i h81
        cases hr : ranksW n [] 0 ws with
        | inl i => rw [hr] at h; cases h
        | inr ts =>
          rw [hr] at h
          have ew : w = ⟨n, arwsOf ts, mrksOf ts⟩ := (Sum.inr.inj h).symm
          obtain ⟨f1, f2, f3, f4⟩ := ranks_facts n ws [] 0 ts (by simp) (by simp) hr
          have sp := rise_split f1
          have f1' := f1
          rw [sp] at f1'
          obtain ⟨sA, sM⟩ := rise_srt f1'
          subst ew
          refine ⟨⟨by show n ≤ 81; omega, fun y hy => ?_, fun y hy => ?_, sA, sM⟩, ?_⟩
          · exact f2 (.inl y) (by rw [sp]; exact List.mem_append_left _ (List.mem_map.mpr ⟨y, hy, rfl⟩))
          · exact f2 (.inr y) (by rw [sp]; exact List.mem_append_right _ (List.mem_map.mpr ⟨y, hy, rfl⟩))
          · have e0 : w0 = numS n := by rw [← (numIn_some hn).2.1]
            have e1 : Wb.words ⟨n, arwsOf ts, mrksOf ts⟩ = Txt.split x " " := by
              rw [hs]
              show numS n :: ((arwsOf ts).map arwS ++ (mrksOf ts).map mrkS) = _
              rw [e0]
              have f4' : ts.map tieS = ws := by simpa using f4
              rw [← f4']
              conv => rhs; rw [sp]
              rw [List.map_append, List.map_map, List.map_map]
              rfl
            show Txt.join " " (Wb.words _) = x
            rw [e1, split_one]
            have es : (" " : Str) = SX.S [32] := by decide +kernel
            rw [es, SX.join_S, joinL_spl1]
            exact (str_S x).symm
end W
namespace W
open PySem L2 HTr
abbrev rkTr (t : Tie) : T := tkey (rankK t)
abbrev rksL (ts : List Tie) : L := .lst ((ts.map rkTr).map .fz)
def spReadWebX (C EB : Nat) : SpX := fun ls G GX => ∃ x : Str, ls = [.fz (.str x)] ∧ x.length ≤ 4000 ∧
  (∀ i, readW x = .inl i → GX EB [("at", .int (i : Nat)), ("word", .str "BadText")]) ∧ (∀ w, readW x = .inr w → ∀ t, WebT C w t → w.ok → G (.fz t) [])
abbrev readBody (EB : Nat) : MS := sSeq (sAsg (rCallU spTieIn [] (aCons (rVar 6) (aCons (rVar 1) aNil))) (gSlot 7))
  (sSeq (sIf (tsOr (tsV (rOp (fIsN false) (rVar 7) (rC .non))) (tsAnd (tsV (rOp (fEq true) (rVar 2) (rLst aNil))) (tsV (rOp fLeM (rVar 7) (HTr.rIx (rVar 2) (rC (.int (-1))))))))
  (sRaise EB "BadText" "at" (rOp fAdd (rVar 5) (rC (.int 1))))
  sNext)
  (sMut fAppend (pVar 2) (aCons (rVar 7) aNil)))
abbrev readTg : MG := gTupT (gsCons (gSlot 5) (gsCons (gSlot 6) gsNil)) 2
theorem fapp_rk {ts : List Tie} {t : Tie} {Q : L → L → Prop} (h : ts.length < sizeLine) (q : Q (rksL (ts ++ [t])) (.fz .non)) : fAppend (rksL ts) [.fz (rkTr t)] Q := by
  refine ⟨by simpa using h, ?_⟩
  have e : (ts.map rkTr).map L.fz ++ [L.fz (rkTr t)] = ((ts ++ [t]).map rkTr).map L.fz := by simp
  rw [e]; exact q
theorem rks_step {n : Nat} {ts : List Tie} {t : Tie} {o0 o1 o3 o4 o5 o6 o8 : Option L} {a b : MS} {e : ET} (ho : ∀ t ∈ ts, tOk n t) (hl : ts.length ≤ 5000)
    (h1 : (ts.getLast?.any fun l => leK (rankK t) (rankK l)) = true → a e [o0, o1, some (rksL ts), o3, o4, o5, o6, some (L.fz (rkTr t)), o8])
    (h2 : ¬ (ts.getLast?.any fun l => leK (rankK t) (rankK l)) = true → b e [o0, o1, some (rksL ts), o3, o4, o5, o6, some (L.fz (rkTr t)), o8]) :
    sIf (tsOr (tsV (rOp (fIsN false) (rVar 7) (rC .non))) (tsAnd (tsV (rOp (fEq true) (rVar 2) (rLst aNil))) (tsV (rOp fLeM (rVar 7) (HTr.rIx (rVar 2) (rC (.int (-1)))))))) a b e
      [o0, o1, some (rksL ts), o3, o4, o5, o6, some (L.fz (rkTr t)), o8] := by
  have hbg : big = 1000000 := rfl
  have k1 : ∀ kk ∈ ts.map rankK, kk.all kOk = true := by
    intro kk hk
    obtain ⟨u, hu, rfl⟩ := List.mem_map.mp hk
    have := ho u hu
    cases u with
    | inl y =>
      have z : kOk (.inr y.c) = true := strOk_col _ this.1
      show (true && (kOk (.inr y.c) && (true && (true && true)))) = true
      rw [z]; rfl
    | inr m =>
      have z : kOk (.inr m.c) = true := strOk_mrk _ this.1
      show (true && (kOk (.inr m.c) && (true && true))) = true
      rw [z]; rfl
  have em : ts.map rkTr = (ts.map rankK).map tkey := by rw [List.map_map]; rfl
  have sh1 := shaped_list k1
  have sh0 : SeqAt.shaped (.list []) = true := by decide
  have hd := data_list (ts.map rankK)
  simp [tkey, -List.map_take, -List.map_drop, cut_map, atI_lit, ixN_lit, fAdd, fI, fI0, sIf, sSet, sIx, sRetV, sRet, sRetN, sNext, sDrop, sAsg, tsAnd, tsOr, tsNot, tsV, rOp, rVar, rC, HTr.rIx, ixL, start0, fEq, eqAtom, strip_pin, strip_at, strip_non, strip_bl, strip_int, strip_str, strip_ftup, strip_flst, strip_fdct, strip_fobj, strip_box, strip_scr, strip_tup, strip_lst, strip_dct, strip_obj, L.tree, L.trees, L.isFz, rCa, fLen, aCons, aNil, fCmp, pVar, endOf, backs, rAndV, rOrV, rNotV, rIf, rChain, rLst, rTup, mkTup, fInStr, fInSeq, fIsN, T.isNon, gSlot, gTupT, gsCons, gsNil, rSl, oNone, oSome, fSl, itemsF_fz, itemsF_fzc, trees_fzc, itemsF_lst, itemsF_tup, itemsF_str, itemsF_scr, itemsFT_tup, itemsFT_lst, itemsFT_str, itemsFT_scr, cut_to, frz_map, frz_cons, frz_nil, rIs, T.ty?, tyIs, rFld, look]
  rw [em, hd, data_nil]
  dsimp only
  refine ⟨sh1, sh0, ?_⟩
  rw [eqv_nil]
  cases hq : ts.getLast? with
  | none =>
    have ea : ts = [] := List.getLast?_eq_none_iff.mp hq
    rw [if_pos (by rw [ea]; decide)]
    exact h2 (by rw [hq]; simp)
  | some l =>
    have ne : ¬ ts = [] := fun e => by rw [e] at hq; cases hq
    rw [if_neg (by simpa using ne), atI_glast, List.getLast?_map, hq]
    dsimp only [Option.map]
    refine ⟨rankK t, rankK l, tieShape, rfl, rfl, rank_shp t, rank_shp l, ?_⟩
    dsimp only
    cases hk : leK (rankK t) (rankK l) with
    | true =>
      rw [if_pos rfl]
      exact h1 (by rw [hq]; exact hk)
    | false =>
      rw [if_neg (by decide)]
      exact h2 (by rw [hq]; show ¬ leK (rankK t) (rankK l) = true; rw [hk]; decide)
theorem readLoop (EB n : Nat) (hn : n ≤ 81) {e : ET} {o0 o3 o4 o8 : Option L} : ∀ (ws : List Str) (ts : List Tie) (at_ : Nat) (o5 o6 o7 : Option L), (∀ w ∈ ws, w.length ≤ 5000) → ts.length + ws.length ≤ 5000 → (∀ t ∈ ts, tOk n t) →
    (∀ i, ranksW n ts at_ ws = .inl i → ∀ S, e.ex EB [("at", .int ((i + 1 : Nat) : Int)), ("word", .str "BadText")] S) →
    (∀ ts', ranksW n ts at_ ws = .inr ts' → ∀ p5 p6 p7, e.nx [o0, some (.fz (.int n)), some (rksL ts'), o3, o4, p5, p6, p7, o8]) →
    forL readTg (readBody EB) ((ws.zipIdx at_).map fun p => T.tup [.int p.2, .str p.1]) e [o0, some (.fz (.int n)), some (rksL ts), o3, o4, o5, o6, o7, o8]
  | [], ts, at_, o5, o6, o7, hl, hs, ho, hE, hN => by
    simp only [List.zipIdx_nil, List.map_nil, forL]
    exact hN ts rfl _ _ _
  | w :: ws, ts, at_, o5, o6, o7, hl, hs, ho, hE, hN => by
    have hb : 5000 < sizeLine := by decide
    have hbg : big = 1000000 := rfl
    have hlw := hl w (by simp)
    have hs' : ts.length + ws.length + 1 ≤ 5000 := by simp at hs; omega
    have n1 := fun t (hw : wTie w.cps.toList n = some t) (hr : ¬ (ts.getLast?.any fun l => leK (rankK t) (rankK l)) = true) p5 p6 p7 => readLoop EB n hn (e := e) (o0 := o0) (o3 := o3) (o4 := o4) (o8 := o8) ws (ts ++ [t]) (at_ + 1) p5 p6 p7 (fun y hy => hl y (by simp [hy])) (by simp; omega)
      (fun u hu => by
        rcases List.mem_append.mp hu with z | z
        · exact ho u z
        · have : u = t := by simpa using z
          subst this; exact (wTie_ok hw).1)
      (fun i hi => hE i (by rw [ranksW, hw]; exact (if_neg hr).trans hi)) (fun ts' hi => hN ts' (by rw [ranksW, hw]; exact (if_neg hr).trans hi))
    have n2 := fun t (hw : wTie w.cps.toList n = some t) (hr : (ts.getLast?.any fun l => leK (rankK t) (rankK l)) = true) => hE at_ (by rw [ranksW, hw]; exact if_pos hr)
    have n3 := fun (hw : wTie w.cps.toList n = none) => hE at_ (by rw [ranksW, hw])
    rw [List.zipIdx_cons, List.map_cons]
    unfold forL
    revert n1
    generalize forL _ _ ((ws.zipIdx (at_ + 1)).map _) _ = cont
    intro n1
    have rz : (∀ S, e.ex EB [("at", .int ((at_ + 1 : Nat) : Int)), ("word", .str "BadText")] S) → ∀ (e' : ET) o2 o7, e'.ex = e.ex → sRaise EB "BadText" "at" (rOp fAdd (rVar 5) (rC (.int 1))) e' [o0, some (L.fz (T.int n)), o2, o3, o4, some (L.fz (T.int at_)), some (L.fz (T.str w)), o7, o8] :=
      fun z e' o2 o7 he => ⟨_, rfl, by rw [he]; exact z _⟩
    refine ⟨rfl, by simp, by simp, rfl, ?_⟩
    show sSeq _ _ _ [o0, some (L.fz (T.int n)), some (rksL ts), o3, o4, some (L.fz (T.int at_)), some (L.fz (T.str w)), o7, o8]
    refine seq_gen fun k1 hk1 => ?_
    replace hk1 := Hid.mk hk1
    simp [rCallU, -List.map_take, -List.map_drop, cut_map, atI_lit, ixN_lit, fAdd, fI, fI0, sIf, sSet, sIx, sRetV, sRet, sRetN, sNext, sDrop, sAsg, tsAnd, tsOr, tsNot, tsV, rOp, rVar, rC, HTr.rIx, ixL, start0, fEq, eqAtom, strip_pin, strip_at, strip_non, strip_bl, strip_int, strip_str, strip_ftup, strip_flst, strip_fdct, strip_fobj, strip_box, strip_scr, strip_tup, strip_lst, strip_dct, strip_obj, L.tree, L.trees, L.isFz, rCa, fLen, aCons, aNil, fCmp, pVar, endOf, backs, rAndV, rOrV, rNotV, rIf, rChain, rLst, rTup, mkTup, fInStr, fInSeq, fIsN, T.isNon, gSlot, gTupT, gsCons, gsNil, rSl, oNone, oSome, fSl, itemsF_fz, itemsF_fzc, trees_fzc, itemsF_lst, itemsF_tup, itemsF_str, itemsF_scr, itemsFT_tup, itemsFT_lst, itemsFT_str, itemsFT_scr, cut_to, frz_map, frz_cons, frz_nil, rIs, T.ty?, tyIs, rFld, look]
    refine ⟨w, n, rfl, by omega, hn, .inl (.inl rfl), ?_⟩
    refine hk1.h _ ?_
    clear hk1 k1
    cases hw : wTie w.cps.toList n with
    | none =>
      have z := rz (n3 hw)
      clear n1 n2 n3 rz
      refine seq_gen fun k1 hk1 => ?_
      replace hk1 := Hid.mk hk1
      simp [rankT, -List.map_take, -List.map_drop, cut_map, atI_lit, ixN_lit, fAdd, fI, fI0, sIf, sSet, sIx, sRetV, sRet, sRetN, sNext, sDrop, sAsg, tsAnd, tsOr, tsNot, tsV, rOp, rVar, rC, HTr.rIx, ixL, start0, fEq, eqAtom, strip_pin, strip_at, strip_non, strip_bl, strip_int, strip_str, strip_ftup, strip_flst, strip_fdct, strip_fobj, strip_box, strip_scr, strip_tup, strip_lst, strip_dct, strip_obj, L.tree, L.trees, L.isFz, rCa, fLen, aCons, aNil, fCmp, pVar, endOf, backs, rAndV, rOrV, rNotV, rIf, rChain, rLst, rTup, mkTup, fInStr, fInSeq, fIsN, T.isNon, gSlot, gTupT, gsCons, gsNil, rSl, oNone, oSome, fSl, itemsF_fz, itemsF_fzc, trees_fzc, itemsF_lst, itemsF_tup, itemsF_str, itemsF_scr, itemsFT_tup, itemsFT_lst, itemsFT_str, itemsFT_scr, cut_to, frz_map, frz_cons, frz_nil, rIs, T.ty?, tyIs, rFld, look]
      exact z _ _ _ rfl
    | some t =>
      refine seq_gen fun k1 hk1 => ?_
      replace hk1 := Hid.mk hk1
      have okt := (wTie_ok hw).1
      have st : L.strip (L.fz (rkTr t)) = L.fz (rkTr t) := rfl
      have isn : (rkTr t).isNon = false := rfl
      have nt : (rkTr t) ≠ T.non := by intro h; cases h
      show sIf _ _ _ _ [o0, some (L.fz (T.int n)), some (rksL ts), o3, o4, some (L.fz (T.int at_)), some (L.fz (T.str w)), some (L.fz (rkTr t)), o8]
      have tail : ∀ Q : Prop, Q → True := fun _ _ => trivial
      refine rks_step ho (by omega) (fun hr => ?_) (fun hr => ?_)
      · exact rz (n2 t hw hr) _ _ _ rfl
      · refine hk1.h _ ?_
        clear hk1 k1
        have z := n1 t hw hr
        clear n1 n2 n3 rz
        simp [sMut, -List.map_take, -List.map_drop, cut_map, atI_lit, ixN_lit, fAdd, fI, fI0, sIf, sSet, sIx, sRetV, sRet, sRetN, sNext, sDrop, sAsg, tsAnd, tsOr, tsNot, tsV, rOp, rVar, rC, HTr.rIx, ixL, start0, fEq, eqAtom, strip_pin, strip_at, strip_non, strip_bl, strip_int, strip_str, strip_ftup, strip_flst, strip_fdct, strip_fobj, strip_box, strip_scr, strip_tup, strip_lst, strip_dct, strip_obj, L.tree, L.trees, L.isFz, rCa, fLen, aCons, aNil, fCmp, pVar, endOf, backs, rAndV, rOrV, rNotV, rIf, rChain, rLst, rTup, mkTup, fInStr, fInSeq, fIsN, T.isNon, gSlot, gTupT, gsCons, gsNil, rSl, oNone, oSome, fSl, itemsF_fz, itemsF_fzc, trees_fzc, itemsF_lst, itemsF_tup, itemsF_str, itemsF_scr, itemsFT_tup, itemsFT_lst, itemsFT_str, itemsFT_scr, cut_to, frz_map, frz_cons, frz_nil, rIs, T.ty?, tyIs, rFld, look]
        exact ⟨rfl, fapp_rk (by omega) (z _ _ _)⟩
def tieTr : Tie → T
  | .inl y => y.t
  | .inr m => m.t
def isA : Tie → Bool
  | .inl _ => true
  | .inr _ => false
theorem rk_comp {ts : List Tie} {S0 : S} {k : Nat} {Q : List L → Prop} (hk : k = 0 ∨ k = 1) (hS : 7 < S0.length) (hl : ts.length ≤ sizeLine) (q : Q ((ts.filter fun t => isA t == decide (k = 0)).map fun t => .fz (tieTr t))) :
    compL (gSlot 7) (tsV (rOp (fEq false) (HTr.rIx (rVar 7) (rC (T.int 0))) (rC (T.int k)))) (rSl (rVar 7) (oSome (rC (T.int 1))) oNone) (ts.map rkTr) S0 [] Q := by
  refine compL_det (f := fun t => .fz (tieTr t)) (p := fun t => isA t == decide (k = 0)) (fun t ht X Y hX hY => ?_) (by simpa using hl) (by rw [List.nil_append]; exact q)
  refine ⟨hS, ?_⟩
  have e7 : (S0.set 7 (some (L.fz (rkTr t))))[7]? = some (some (L.fz (rkTr t))) := by rw [List.getElem?_set_self hS]
  cases t with
  | inl y =>
    simp only [tsV, rOp, HTr.rIx, rVar, rC, e7, rSl, oSome, oNone]
    show if decide ((0 : Int) = (k : Int)) = true then _ else _
    rcases hk with rfl | rfl
    · rw [if_pos (by decide)]
      exact ⟨fun z => absurd z.1 (by show ¬ (HT.sIx 4 0 (some 1) = 0); decide), trivial, hX rfl⟩
    · rw [if_neg (by decide)]
      exact hY rfl
  | inr m =>
    simp only [tsV, rOp, HTr.rIx, rVar, rC, e7, rSl, oSome, oNone]
    show if decide ((1 : Int) = (k : Int)) = true then _ else _
    rcases hk with rfl | rfl
    · rw [if_neg (by decide)]
      exact hY rfl
    · rw [if_pos (by decide)]
      exact ⟨fun z => absurd z.1 (by show ¬ (HT.sIx 3 0 (some 1) = 0); decide), trivial, hX rfl⟩
theorem rk_pick {ts : List Tie} {S0 : S} {k : Nat} {Q : L → Bool → Prop} (hk : k = 0 ∨ k = 1) (h2 : S0[2]? = some (some (rksL ts))) (hS : 7 < S0.length) (hl : ts.length ≤ sizeLine) (q : Q (.lst ((ts.filter fun t => isA t == decide (k = 0)).map fun t => .fz (tieTr t))) true) :
    rCompS (rVar 2) (gSlot 7) (tsV (rOp (fEq false) (HTr.rIx (rVar 7) (rC (T.int 0))) (rC (T.int k)))) (rSl (rVar 7) (oSome (rC (T.int 1))) oNone) [7] S0 Q := by
  have eI : itemsF (rksL ts) = some (ts.map rkTr) := itemsF_fzc' _
  show (match S0[2]? with | some (some l) => _ | _ => False)
  rw [h2]
  show (match itemsF (rksL ts), itemsFT (rksL ts) with | some ts, _ => _ | none, some ts => _ | none, none => False)
  rw [eI]
  exact rk_comp hk (by simpa [wipeS] using hS) hl q
theorem filt_A (as : List Arw) (ms : List Mrk) : ((as.map Sum.inl ++ ms.map Sum.inr : List Tie).filter fun t => isA t == decide (0 = 0)).map (fun t => L.fz (tieTr t)) = (as.map Arw.t).map .fz := by
  rw [List.filter_append, List.filter_eq_self.mpr, List.filter_eq_nil_iff.mpr]
  · simp [tieTr]
  · intro t ht; obtain ⟨m, _, rfl⟩ := List.mem_map.mp ht; simp [isA]
  · intro t ht; obtain ⟨m, _, rfl⟩ := List.mem_map.mp ht; simp [isA]
theorem filt_M (as : List Arw) (ms : List Mrk) : ((as.map Sum.inl ++ ms.map Sum.inr : List Tie).filter fun t => isA t == decide (1 = 0)).map (fun t => L.fz (tieTr t)) = (ms.map Mrk.t).map .fz := by
  rw [List.filter_append, List.filter_eq_nil_iff.mpr, List.filter_eq_self.mpr]
  · simp [tieTr]
  · intro t ht; obtain ⟨m, _, rfl⟩ := List.mem_map.mp ht; simp [isA]
  · intro t ht; obtain ⟨m, _, rfl⟩ := List.mem_map.mp ht; simp [isA]
theorem vc_read_web (C EB : Nat) : ∀ ls G GX, spReadWebX C EB ls G GX → m_read_web_x spNumIn spTieIn (spInit C) EB C (endOfX ls G GX) (start0 N_read_web_x.length ls) := by
  rintro ls G GX ⟨x, rfl, hx, hE, hG⟩
  have hz : 10000 < sizeLine := by decide
  have sl := split_len x
  unfold m_read_web_x
  refine seq_gen fun k1 hk1 => ?_
  replace hk1 := Hid.mk hk1
  cases hs : Txt.split x " " with
  | nil => rw [split_one] at hs; exact absurd (List.map_eq_nil_iff.mp hs) (spl1_ne _ _ _)
  | cons w0 ws =>
    rw [hs] at sl
    have e0 : seqF (L.lst (List.map (L.fz ∘ T.str) (Txt.split x (Str.ofString " ")))) = some (T.str w0 :: ws.map T.str) := by
      unfold seqF
      rw [← List.map_map, itemsF_fzc']
      dsimp only
      exact congrArg (fun z => some (z.map T.str)) hs
    simp [sStarR, rSplit, -List.map_take, -List.map_drop, cut_map, atI_lit, ixN_lit, fAdd, fI, fI0, sIf, sSet, sIx, sRetV, sRet, sRetN, sNext, sDrop, sAsg, tsAnd, tsOr, tsNot, tsV, rOp, rVar, rC, HTr.rIx, ixL, start0, fEq, eqAtom, strip_pin, strip_at, strip_non, strip_bl, strip_int, strip_str, strip_ftup, strip_flst, strip_fdct, strip_fobj, strip_box, strip_scr, strip_tup, strip_lst, strip_dct, strip_obj, L.tree, L.trees, L.isFz, rCa, fLen, aCons, aNil, fCmp, pVar, endOf, backs, rAndV, rOrV, rNotV, rIf, rChain, rLst, rTup, mkTup, fInStr, fInSeq, fIsN, T.isNon, gSlot, gTupT, gsCons, gsNil, rSl, oNone, oSome, fSl, itemsF_fz, itemsF_fzc, trees_fzc, itemsF_lst, itemsF_tup, itemsF_str, itemsF_scr, itemsFT_tup, itemsFT_lst, itemsFT_str, itemsFT_scr, cut_to, frz_map, frz_cons, frz_nil, rIs, T.ty?, tyIs, rFld, look]
    refine ⟨by decide, by omega, _, _, e0, ?_⟩
    refine hk1.h _ ?_
    clear hk1 k1 e0
    have hl0 : ∀ w ∈ w0 :: ws, w.length ≤ 4000 := fun w hw => Nat.le_trans (sl.2 w hw) hx
    have hr : readW x = match numIn w0.cps.toList with
        | none => .inl 0
        | some n => if 81 < n then .inl 0 else match ranksW n [] 0 ws with
          | .inl i => .inl (i + 1)
          | .inr ts => .inr ⟨n, arwsOf ts, mrksOf ts⟩ := by
      unfold readW
      rw [hs]
      try rfl
    refine seq_gen fun k1 hk1 => ?_
    replace hk1 := Hid.mk hk1
    simp [rCallU, -List.map_take, -List.map_drop, cut_map, atI_lit, ixN_lit, fAdd, fI, fI0, sIf, sSet, sIx, sRetV, sRet, sRetN, sNext, sDrop, sAsg, tsAnd, tsOr, tsNot, tsV, rOp, rVar, rC, HTr.rIx, ixL, start0, fEq, eqAtom, strip_pin, strip_at, strip_non, strip_bl, strip_int, strip_str, strip_ftup, strip_flst, strip_fdct, strip_fobj, strip_box, strip_scr, strip_tup, strip_lst, strip_dct, strip_obj, L.tree, L.trees, L.isFz, rCa, fLen, aCons, aNil, fCmp, pVar, endOf, backs, rAndV, rOrV, rNotV, rIf, rChain, rLst, rTup, mkTup, fInStr, fInSeq, fIsN, T.isNon, gSlot, gTupT, gsCons, gsNil, rSl, oNone, oSome, fSl, itemsF_fz, itemsF_fzc, trees_fzc, itemsF_lst, itemsF_tup, itemsF_str, itemsF_scr, itemsFT_tup, itemsFT_lst, itemsFT_str, itemsFT_scr, cut_to, frz_map, frz_cons, frz_nil, rIs, T.ty?, tyIs, rFld, look]
    refine ⟨w0, rfl, by have := hl0 w0 (by simp); omega, .inl (.inl rfl), ?_⟩
    refine hk1.h _ ?_
    clear hk1 k1
    cases hn : numIn w0.cps.toList with
    | none =>
      rw [hn] at hr
      have z := hE 0 hr
      refine seq_gen fun k1 hk1 => ?_
      replace hk1 := Hid.mk hk1
      simp [optN, -List.map_take, -List.map_drop, cut_map, atI_lit, ixN_lit, fAdd, fI, fI0, sIf, sSet, sIx, sRetV, sRet, sRetN, sNext, sDrop, sAsg, tsAnd, tsOr, tsNot, tsV, rOp, rVar, rC, HTr.rIx, ixL, start0, fEq, eqAtom, strip_pin, strip_at, strip_non, strip_bl, strip_int, strip_str, strip_ftup, strip_flst, strip_fdct, strip_fobj, strip_box, strip_scr, strip_tup, strip_lst, strip_dct, strip_obj, L.tree, L.trees, L.isFz, rCa, fLen, aCons, aNil, fCmp, pVar, endOf, backs, rAndV, rOrV, rNotV, rIf, rChain, rLst, rTup, mkTup, fInStr, fInSeq, fIsN, T.isNon, gSlot, gTupT, gsCons, gsNil, rSl, oNone, oSome, fSl, itemsF_fz, itemsF_fzc, trees_fzc, itemsF_lst, itemsF_tup, itemsF_str, itemsF_scr, itemsFT_tup, itemsFT_lst, itemsFT_str, itemsFT_scr, cut_to, frz_map, frz_cons, frz_nil, rIs, T.ty?, tyIs, rFld, look]
      exact ⟨_, rfl, z⟩
    | some n =>
      rw [hn] at hr
      dsimp only at hr
      by_cases h81 : 81 < n
      · rw [if_pos h81] at hr
        have z := hE 0 hr
        refine seq_gen fun k1 hk1 => ?_
        replace hk1 := Hid.mk hk1
        simp [optN, -List.map_take, -List.map_drop, cut_map, atI_lit, ixN_lit, fAdd, fI, fI0, sIf, sSet, sIx, sRetV, sRet, sRetN, sNext, sDrop, sAsg, tsAnd, tsOr, tsNot, tsV, rOp, rVar, rC, HTr.rIx, ixL, start0, fEq, eqAtom, strip_pin, strip_at, strip_non, strip_bl, strip_int, strip_str, strip_ftup, strip_flst, strip_fdct, strip_fobj, strip_box, strip_scr, strip_tup, strip_lst, strip_dct, strip_obj, L.tree, L.trees, L.isFz, rCa, fLen, aCons, aNil, fCmp, pVar, endOf, backs, rAndV, rOrV, rNotV, rIf, rChain, rLst, rTup, mkTup, fInStr, fInSeq, fIsN, T.isNon, gSlot, gTupT, gsCons, gsNil, rSl, oNone, oSome, fSl, itemsF_fz, itemsF_fzc, trees_fzc, itemsF_lst, itemsF_tup, itemsF_str, itemsF_scr, itemsFT_tup, itemsFT_lst, itemsFT_str, itemsFT_scr, cut_to, frz_map, frz_cons, frz_nil, rIs, T.ty?, tyIs, rFld, look]
        first | rw [if_pos h81] | rw [if_pos (by omega)] | skip
        exact ⟨_, rfl, z⟩
      · rw [if_neg h81] at hr
        refine seq_gen fun k1 hk1 => ?_
        replace hk1 := Hid.mk hk1
        simp [optN, -List.map_take, -List.map_drop, cut_map, atI_lit, ixN_lit, fAdd, fI, fI0, sIf, sSet, sIx, sRetV, sRet, sRetN, sNext, sDrop, sAsg, tsAnd, tsOr, tsNot, tsV, rOp, rVar, rC, HTr.rIx, ixL, start0, fEq, eqAtom, strip_pin, strip_at, strip_non, strip_bl, strip_int, strip_str, strip_ftup, strip_flst, strip_fdct, strip_fobj, strip_box, strip_scr, strip_tup, strip_lst, strip_dct, strip_obj, L.tree, L.trees, L.isFz, rCa, fLen, aCons, aNil, fCmp, pVar, endOf, backs, rAndV, rOrV, rNotV, rIf, rChain, rLst, rTup, mkTup, fInStr, fInSeq, fIsN, T.isNon, gSlot, gTupT, gsCons, gsNil, rSl, oNone, oSome, fSl, itemsF_fz, itemsF_fzc, trees_fzc, itemsF_lst, itemsF_tup, itemsF_str, itemsF_scr, itemsFT_tup, itemsFT_lst, itemsFT_str, itemsFT_scr, cut_to, frz_map, frz_cons, frz_nil, rIs, T.ty?, tyIs, rFld, look]
        first | rw [if_neg h81] | rw [if_neg (by omega)] | skip
        refine hk1.h _ ?_
        clear hk1 k1
        refine seq_gen fun k1 hk1 => ?_
        replace hk1 := Hid.mk hk1
        simp [true_and, -List.map_take, -List.map_drop, cut_map, atI_lit, ixN_lit, fAdd, fI, fI0, sIf, sSet, sIx, sRetV, sRet, sRetN, sNext, sDrop, sAsg, tsAnd, tsOr, tsNot, tsV, rOp, rVar, rC, HTr.rIx, ixL, start0, fEq, eqAtom, strip_pin, strip_at, strip_non, strip_bl, strip_int, strip_str, strip_ftup, strip_flst, strip_fdct, strip_fobj, strip_box, strip_scr, strip_tup, strip_lst, strip_dct, strip_obj, L.tree, L.trees, L.isFz, rCa, fLen, aCons, aNil, fCmp, pVar, endOf, backs, rAndV, rOrV, rNotV, rIf, rChain, rLst, rTup, mkTup, fInStr, fInSeq, fIsN, T.isNon, gSlot, gTupT, gsCons, gsNil, rSl, oNone, oSome, fSl, itemsF_fz, itemsF_fzc, trees_fzc, itemsF_lst, itemsF_tup, itemsF_str, itemsF_scr, itemsFT_tup, itemsFT_lst, itemsFT_str, itemsFT_scr, cut_to, frz_map, frz_cons, frz_nil, rIs, T.ty?, tyIs, rFld, look]
        refine hk1.h _ ?_
        clear hk1 k1
        refine seq_gen fun k1 hk1 => ?_
        replace hk1 := Hid.mk hk1
        simp [sForE, -List.map_take, -List.map_drop, cut_map, atI_lit, ixN_lit, fAdd, fI, fI0, sIf, sSet, sIx, sRetV, sRet, sRetN, sNext, sDrop, sAsg, tsAnd, tsOr, tsNot, tsV, rOp, rVar, rC, HTr.rIx, ixL, start0, fEq, eqAtom, strip_pin, strip_at, strip_non, strip_bl, strip_int, strip_str, strip_ftup, strip_flst, strip_fdct, strip_fobj, strip_box, strip_scr, strip_tup, strip_lst, strip_dct, strip_obj, L.tree, L.trees, L.isFz, rCa, fLen, aCons, aNil, fCmp, pVar, endOf, backs, rAndV, rOrV, rNotV, rIf, rChain, rLst, rTup, mkTup, fInStr, fInSeq, fIsN, T.isNon, gSlot, gTupT, gsCons, gsNil, rSl, oNone, oSome, fSl, itemsF_fz, itemsF_fzc, trees_fzc, itemsF_lst, itemsF_tup, itemsF_str, itemsF_scr, itemsFT_tup, itemsFT_lst, itemsFT_str, itemsFT_scr, cut_to, frz_map, frz_cons, frz_nil, rIs, T.ty?, tyIs, rFld, look]
        rw [enumS]
        have lw : ws.length ≤ 4001 := by have := sl.1; simp at this; omega
        refine readLoop EB n (by omega) ws [] 0 none none none (fun w hw => by have := hl0 w (by simp [hw]); omega) (by simp; omega) (by simp) (fun i hi S => hE (i + 1) (by rw [hr, hi])) fun ts hi p5 p6 p7 => ?_
        rw [hi] at hr
        dsimp only at hr
        obtain ⟨f1, f2, f3, f4⟩ := ranks_facts n ws [] 0 ts (by simp) (by simp) hi
        have sp := rise_split f1
        have f1' := f1
        rw [sp] at f1'
        obtain ⟨sA, sM⟩ := rise_srt f1'
        obtain ⟨ok, _⟩ := readW_ok hr
        have hG' := fun t ht => hG _ hr t ht ok
        generalize arwsOf ts = as at *
        generalize mrksOf ts = ms at *
        subst sp
        refine hk1.h _ ?_
        clear hk1 k1
        refine seq_gen fun k1 hk1 => ?_
        replace hk1 := Hid.mk hk1
        have lts : (as.map Sum.inl ++ ms.map Sum.inr : List Tie).length ≤ 4001 := by rw [f3]; simpa using lw
        refine rk_pick (k := 0) (.inl rfl) rfl (by simp) (by omega) ?_
        rw [filt_A]
        refine ⟨rfl, by simp, ?_⟩
        show k1 [some (L.fz (T.str x)), some (L.fz (T.int n)), some (rksL (as.map Sum.inl ++ ms.map Sum.inr)), some (L.fz (T.lst (L.trees ((as.map Arw.t).map L.fz)))), some (L.fz (T.str w0)), p5, p6, p7, some (L.fz (T.lst (ws.map T.str)))]
        rw [L.trees_fz]
        refine hk1.h _ ?_
        clear hk1 k1
        simp [rMakeKT, gt_Web_1_arrows_marks, gq_Web_1_arrows_marks, endOfX, -List.map_take, -List.map_drop, cut_map, atI_lit, ixN_lit, fAdd, fI, fI0, sIf, sSet, sIx, sRetV, sRet, sRetN, sNext, sDrop, sAsg, tsAnd, tsOr, tsNot, tsV, rOp, rVar, rC, HTr.rIx, ixL, start0, fEq, eqAtom, strip_pin, strip_at, strip_non, strip_bl, strip_int, strip_str, strip_ftup, strip_flst, strip_fdct, strip_fobj, strip_box, strip_scr, strip_tup, strip_lst, strip_dct, strip_obj, L.tree, L.trees, L.isFz, rCa, fLen, aCons, aNil, fCmp, pVar, endOf, backs, rAndV, rOrV, rNotV, rIf, rChain, rLst, rTup, mkTup, fInStr, fInSeq, fIsN, T.isNon, gSlot, gTupT, gsCons, gsNil, rSl, oNone, oSome, fSl, itemsF_fz, itemsF_fzc, trees_fzc, itemsF_lst, itemsF_tup, itemsF_str, itemsF_scr, itemsFT_tup, itemsFT_lst, itemsFT_str, itemsFT_scr, cut_to, frz_map, frz_cons, frz_nil, rIs, T.ty?, tyIs, rFld, look]
        refine rk_pick (k := 1) (.inr rfl) rfl (by simp) (by omega) ?_
        rw [filt_M]
        have la : as.length ≤ 4001 := by simp at lts; omega
        have lm : ms.length ≤ 4001 := by simp at lts; omega
        refine ⟨⟨rfl, rfl, fz_lent _⟩, fun x1 => ?_⟩
        have eT : (L.lst ((ms.map Mrk.t).map L.fz)).tree = .lst (ms.map Mrk.t) := by show T.lst (L.trees _) = _; rw [L.trees_fz]
        rw [eT]
        refine ⟨x1, n, as, ms, .lst (as.map Arw.t), .lst (ms.map Mrk.t), rfl, .inl rfl, .inl rfl, ok.n81, ok.aok, ok.mok, by omega, by omega, fun l w lt hw hn2 hok sA2 sM2 => ⟨rfl, lt, ?_⟩⟩
        obtain rfl := srtA_uniq sA hok.asr fun y => (sA2.mem y).symm
        obtain rfl := srtM_uniq sM hok.msr fun y => (sM2.mem y).symm
        obtain ⟨wn, wa, wm⟩ := w
        obtain rfl : wn = n := hn2
        exact hG' _ hw
end W
namespace W
open PySem L2 HTr
def spWrong : SpT := fun ls G => ∃ x : Str, ls = [.fz (.str x)] ∧ x.length ≤ 4000 ∧ (∀ i, readW x = .inl i → G (.fz (.int (i : Nat))) []) ∧ (∀ w, readW x = .inr w → G (.fz .non) [])
def lastK (ts : List Tie) : List Key := match ts.getLast? with
  | some l => rankK l
  | none => [.inl 0, .inr ""]
theorem lastK_le {n : Nat} {ts : List Tie} {t : Tie} (ok : tOk n t) : leK (rankK t) (lastK ts) = (ts.getLast?.any fun l => leK (rankK t) (rankK l)) := by
  unfold lastK
  cases ts.getLast? with
  | some l => rfl
  | none =>
    cases t with
    | inl y =>
      have hc := col_len1 ok.1
      have hl : y.c.cps.toList.length = 1 := (len_cps _).symm.trans hc
      have ne : y.c ≠ "" := fun z => by rw [z] at hc; exact absurd hc (by decide)
      show leK [.inl 0, .inr y.c, .inl y.a, .inl y.b] [.inl 0, .inr ""] = false
      unfold leK
      rw [if_pos rfl]
      unfold leK
      rw [if_neg fun z => ne (Sum.inr.inj z)]
      show (!decide (("" : Str).cps.toList < y.c.cps.toList)) = false
      have e : ("" : Str).cps.toList = [] := by decide +kernel
      rw [e]
      cases h : y.c.cps.toList with
      | nil => rw [h] at hl; cases hl
      | cons a r => simp
    | inr m => rfl
theorem lastK_shp (ts : List Tie) : shp tieShape 0 (lastK ts) = true := by
  unfold lastK
  cases ts.getLast? with
  | some l => exact rank_shp l
  | none => rfl
theorem or_isn {i : Nat} {S : S} {e : ET} {a b : MS} {t : T} {m : MT} (h : S[i]? = some (some (.fz t))) (st : L.strip (.fz t) = .fz t) (hn : t.isNon = false) (q : m S fun c => if c = true then a e S else b e S) :
    sIf (tsOr (tsV (rOp (fIsN false) (rVar i) (rC .non))) m) a b e S := by
  simp only [sIf, tsOr, tsV, rOp, rVar, rC, h, st, fIsN, L.tree, hn]
  exact q
theorem strip_tkey (ks : List Key) : L.strip (.fz (tkey ks)) = .fz (tkey ks) := rfl
theorem leM_step {i j : Nat} {S : S} {ks ls : List Key} {shape : Nat → Bool} {Q : Bool → Prop} (hi : S[i]? = some (some (.fz (tkey ks)))) (hj : S[j]? = some (some (.fz (tkey ls)))) (s1 : shp shape 0 ks = true) (s2 : shp shape 0 ls = true) (q : Q (leK ks ls)) :
    tsV (rOp fLeM (rVar i) (rVar j)) S Q := by
  simp only [tsV, rOp, rVar, hi, hj, strip_tkey]
  exact ⟨ks, ls, shape, rfl, rfl, s1, s2, q⟩
abbrev wrongBody : MS := sSeq (sAsg (rCallU spLawTieIn [] (aCons (rVar 5) (aCons (rVar 2) aNil))) (gSlot 6))
  (sSeq (sIf (tsOr (tsV (rOp (fIsN false) (rVar 6) (rC .non))) (tsV (rOp fLeM (rVar 6) (rVar 3))))
  (sRet (rOp fAdd (rVar 4) (rC (.int 1))))
  sNext)
  (sAsg (rVar 6) (gSlot 3)))
abbrev wrongTg : MG := gTupT (gsCons (gSlot 4) (gsCons (gSlot 5) gsNil)) 2
theorem wrongLoop (n : Nat) (hn : n ≤ 81) {e : ET} {o0 o1 : Option L} : ∀ (ws : List Str) (ts : List Tie) (at_ : Nat) (o4 o5 o6 : Option L), (∀ w ∈ ws, w.length ≤ 5000) →
    (∀ i, ranksW n ts at_ ws = .inl i → ∀ S, e.rt (.fz (.int ((i + 1 : Nat) : Int))) (o0 :: S)) →
    (∀ ts', ranksW n ts at_ ws = .inr ts' → ∀ S, e.nx (o0 :: S)) →
    forL wrongTg wrongBody ((ws.zipIdx at_).map fun p => T.tup [.int p.2, .str p.1]) e [o0, o1, some (.fz (.int n)), some (.fz (tkey (lastK ts))), o4, o5, o6]
  | [], ts, at_, o4, o5, o6, hl, hE, hN => by
    simp only [List.zipIdx_nil, List.map_nil, forL]
    exact hN ts rfl _
  | w :: ws, ts, at_, o4, o5, o6, hl, hE, hN => by
    have hb : 5000 < sizeLine := by decide
    have hlw := hl w (by simp)
    have n1 := fun t (hw : wTie w.cps.toList n = some t) (hr : ¬ (ts.getLast?.any fun l => leK (rankK t) (rankK l)) = true) p4 p5 p6 => wrongLoop n hn (e := e) (o0 := o0) (o1 := o1) ws (ts ++ [t]) (at_ + 1) p4 p5 p6 (fun y hy => hl y (by simp [hy]))
      (fun i hi => hE i (by rw [ranksW, hw]; exact (if_neg hr).trans hi)) (fun ts' hi => hN ts' (by rw [ranksW, hw]; exact (if_neg hr).trans hi))
    have n2 := fun t (hw : wTie w.cps.toList n = some t) (hr : (ts.getLast?.any fun l => leK (rankK t) (rankK l)) = true) => hE at_ (by rw [ranksW, hw]; exact if_pos hr)
    have n3 := fun (hw : wTie w.cps.toList n = none) => hE at_ (by rw [ranksW, hw])
    rw [List.zipIdx_cons, List.map_cons]
    unfold forL
    revert n1
    generalize forL _ _ ((ws.zipIdx (at_ + 1)).map _) _ = cont
    intro n1
    refine ⟨rfl, by simp, by simp, rfl, ?_⟩
    show sSeq _ _ _ [o0, o1, some (L.fz (T.int n)), some (.fz (tkey (lastK ts))), some (L.fz (T.int at_)), some (L.fz (T.str w)), o6]
    refine seq_gen fun k1 hk1 => ?_
    replace hk1 := Hid.mk hk1
    simp [rCallU, -List.map_take, -List.map_drop, cut_map, atI_lit, ixN_lit, fAdd, fI, fI0, sIf, sSet, sIx, sRetV, sRet, sRetN, sNext, sDrop, sAsg, tsAnd, tsOr, tsNot, tsV, rOp, rVar, rC, HTr.rIx, ixL, start0, fEq, eqAtom, strip_pin, strip_at, strip_non, strip_bl, strip_int, strip_str, strip_ftup, strip_flst, strip_fdct, strip_fobj, strip_box, strip_scr, strip_tup, strip_lst, strip_dct, strip_obj, L.tree, L.trees, L.isFz, rCa, fLen, aCons, aNil, fCmp, pVar, endOf, backs, rAndV, rOrV, rNotV, rIf, rChain, rLst, rTup, mkTup, fInStr, fInSeq, fIsN, T.isNon, gSlot, gTupT, gsCons, gsNil, rSl, oNone, oSome, fSl, itemsF_fz, itemsF_fzc, trees_fzc, itemsF_lst, itemsF_tup, itemsF_str, itemsF_scr, itemsFT_tup, itemsFT_lst, itemsFT_str, itemsFT_scr, cut_to, frz_map, frz_cons, frz_nil, rIs, T.ty?, tyIs, rFld, look]
    refine ⟨w, n, rfl, by omega, hn, .inl (.inl rfl), ?_⟩
    refine hk1.h _ ?_
    clear hk1 k1
    cases hw : wTie w.cps.toList n with
    | none =>
      have z := n3 hw
      clear n1 n2 n3
      refine seq_gen fun k1 hk1 => ?_
      replace hk1 := Hid.mk hk1
      simp [rankT, -List.map_take, -List.map_drop, cut_map, atI_lit, ixN_lit, fAdd, fI, fI0, sIf, sSet, sIx, sRetV, sRet, sRetN, sNext, sDrop, sAsg, tsAnd, tsOr, tsNot, tsV, rOp, rVar, rC, HTr.rIx, ixL, start0, fEq, eqAtom, strip_pin, strip_at, strip_non, strip_bl, strip_int, strip_str, strip_ftup, strip_flst, strip_fdct, strip_fobj, strip_box, strip_scr, strip_tup, strip_lst, strip_dct, strip_obj, L.tree, L.trees, L.isFz, rCa, fLen, aCons, aNil, fCmp, pVar, endOf, backs, rAndV, rOrV, rNotV, rIf, rChain, rLst, rTup, mkTup, fInStr, fInSeq, fIsN, T.isNon, gSlot, gTupT, gsCons, gsNil, rSl, oNone, oSome, fSl, itemsF_fz, itemsF_fzc, trees_fzc, itemsF_lst, itemsF_tup, itemsF_str, itemsF_scr, itemsFT_tup, itemsFT_lst, itemsFT_str, itemsFT_scr, cut_to, frz_map, frz_cons, frz_nil, rIs, T.ty?, tyIs, rFld, look]
      exact z _
    | some t =>
      have okt := (wTie_ok hw).1
      have el := lastK_le (ts := ts) okt
      refine seq_gen fun k1 hk1 => ?_
      replace hk1 := Hid.mk hk1
      show sIf _ _ _ _ [o0, o1, some (L.fz (T.int n)), some (.fz (tkey (lastK ts))), some (L.fz (T.int at_)), some (L.fz (T.str w)), some (L.fz (rkTr t))]
      refine or_isn (t := rkTr t) rfl rfl rfl ?_
      refine leM_step (ks := rankK t) (ls := lastK ts) (shape := tieShape) rfl rfl (rank_shp t) (lastK_shp ts) ?_
      rw [el]
      by_cases hr : (ts.getLast?.any fun l => leK (rankK t) (rankK l)) = true
      · rw [if_pos hr]
        exact ⟨rfl, n2 t hw hr _⟩
      · rw [if_neg hr]
        refine hk1.h _ ?_
        clear hk1 k1
        have z := n1 t hw hr
        have eK : lastK (ts ++ [t]) = rankK t := by unfold lastK; rw [List.getLast?_append, List.getLast?_singleton]; rfl
        rw [eK] at z
        exact ⟨rfl, by simp, z _ _ _⟩
theorem vc_wrong : ∀ ls G, spWrong ls G → m_law_wrong_word spLawNumIn spLawTieIn (endOf ls G) (start0 N_law_wrong_word.length ls) := by
  rintro ls G ⟨x, rfl, hx, hE, hG⟩
  have hz : 10000 < sizeLine := by decide
  have sl := split_len x
  unfold m_law_wrong_word
  refine seq_gen fun k1 hk1 => ?_
  replace hk1 := Hid.mk hk1
  cases hs : Txt.split x " " with
  | nil => rw [split_one] at hs; exact absurd (List.map_eq_nil_iff.mp hs) (spl1_ne _ _ _)
  | cons w0 ws =>
    rw [hs] at sl
    have hs' : Txt.split x (Str.ofString " ") = w0 :: ws := hs
    simp [rSplit, -List.map_take, -List.map_drop, cut_map, atI_lit, ixN_lit, fAdd, fI, fI0, sIf, sSet, sIx, sRetV, sRet, sRetN, sNext, sDrop, sAsg, tsAnd, tsOr, tsNot, tsV, rOp, rVar, rC, HTr.rIx, ixL, start0, fEq, eqAtom, strip_pin, strip_at, strip_non, strip_bl, strip_int, strip_str, strip_ftup, strip_flst, strip_fdct, strip_fobj, strip_box, strip_scr, strip_tup, strip_lst, strip_dct, strip_obj, L.tree, L.trees, L.isFz, rCa, fLen, aCons, aNil, fCmp, pVar, endOf, backs, rAndV, rOrV, rNotV, rIf, rChain, rLst, rTup, mkTup, fInStr, fInSeq, fIsN, T.isNon, gSlot, gTupT, gsCons, gsNil, rSl, oNone, oSome, fSl, itemsF_fz, itemsF_fzc, trees_fzc, itemsF_lst, itemsF_tup, itemsF_str, itemsF_scr, itemsFT_tup, itemsFT_lst, itemsFT_str, itemsFT_scr, cut_to, frz_map, frz_cons, frz_nil, rIs, T.ty?, tyIs, rFld, look]
    rw [hs']
    refine ⟨by decide, by omega, hk1.h _ ?_⟩
    clear hk1 k1
    have hl0 : ∀ w ∈ w0 :: ws, w.length ≤ 4000 := fun w hw => Nat.le_trans (sl.2 w hw) hx
    have hr : readW x = match numIn w0.cps.toList with
        | none => .inl 0
        | some n => if 81 < n then .inl 0 else match ranksW n [] 0 ws with
          | .inl i => .inl (i + 1)
          | .inr ts => .inr ⟨n, arwsOf ts, mrksOf ts⟩ := by
      unfold readW
      rw [hs]
      try rfl
    refine seq_gen fun k1 hk1 => ?_
    replace hk1 := Hid.mk hk1
    simp [rCallU, -List.map_take, -List.map_drop, cut_map, atI_lit, ixN_lit, fAdd, fI, fI0, sIf, sSet, sIx, sRetV, sRet, sRetN, sNext, sDrop, sAsg, tsAnd, tsOr, tsNot, tsV, rOp, rVar, rC, HTr.rIx, ixL, start0, fEq, eqAtom, strip_pin, strip_at, strip_non, strip_bl, strip_int, strip_str, strip_ftup, strip_flst, strip_fdct, strip_fobj, strip_box, strip_scr, strip_tup, strip_lst, strip_dct, strip_obj, L.tree, L.trees, L.isFz, rCa, fLen, aCons, aNil, fCmp, pVar, endOf, backs, rAndV, rOrV, rNotV, rIf, rChain, rLst, rTup, mkTup, fInStr, fInSeq, fIsN, T.isNon, gSlot, gTupT, gsCons, gsNil, rSl, oNone, oSome, fSl, itemsF_fz, itemsF_fzc, trees_fzc, itemsF_lst, itemsF_tup, itemsF_str, itemsF_scr, itemsFT_tup, itemsFT_lst, itemsFT_str, itemsFT_scr, cut_to, frz_map, frz_cons, frz_nil, rIs, T.ty?, tyIs, rFld, look]
    refine ⟨w0, rfl, by have := hl0 w0 (by simp); omega, .inl (.inl rfl), ?_⟩
    refine hk1.h _ ?_
    clear hk1 k1
    refine seq_gen fun k1 hk1 => ?_
    replace hk1 := Hid.mk hk1
    have bad : 81 < (numIn w0.cps.toList).getD 99 → readW x = .inl 0 := fun h => by
      rw [hr]
      cases e : numIn w0.cps.toList with
      | none => rfl
      | some n => rw [e] at h; exact if_pos h
    simp [true_and, -List.map_take, -List.map_drop, cut_map, atI_lit, ixN_lit, fAdd, fI, fI0, sIf, sSet, sIx, sRetV, sRet, sRetN, sNext, sDrop, sAsg, tsAnd, tsOr, tsNot, tsV, rOp, rVar, rC, HTr.rIx, ixL, start0, fEq, eqAtom, strip_pin, strip_at, strip_non, strip_bl, strip_int, strip_str, strip_ftup, strip_flst, strip_fdct, strip_fobj, strip_box, strip_scr, strip_tup, strip_lst, strip_dct, strip_obj, L.tree, L.trees, L.isFz, rCa, fLen, aCons, aNil, fCmp, pVar, endOf, backs, rAndV, rOrV, rNotV, rIf, rChain, rLst, rTup, mkTup, fInStr, fInSeq, fIsN, T.isNon, gSlot, gTupT, gsCons, gsNil, rSl, oNone, oSome, fSl, itemsF_fz, itemsF_fzc, trees_fzc, itemsF_lst, itemsF_tup, itemsF_str, itemsF_scr, itemsFT_tup, itemsFT_lst, itemsFT_str, itemsFT_scr, cut_to, frz_map, frz_cons, frz_nil, rIs, T.ty?, tyIs, rFld, look]
    by_cases h81 : 81 < (numIn w0.cps.toList).getD 99
    · first | rw [if_pos h81] | rw [if_pos (by omega)] | skip
      exact hE 0 (bad h81)
    · first | rw [if_neg h81] | rw [if_neg (by omega)] | skip
      refine hk1.h _ ?_
      clear hk1 k1
      obtain ⟨n, hn⟩ : ∃ n, numIn w0.cps.toList = some n := by
        cases e : numIn w0.cps.toList with
        | none => rw [e] at h81; exact absurd (by decide) h81
        | some n => exact ⟨n, rfl⟩
      rw [hn] at hr h81 ⊢
      dsimp only [Option.getD] at hr h81 ⊢
      rw [if_neg h81] at hr
      refine seq_gen fun k1 hk1 => ?_
      replace hk1 := Hid.mk hk1
      simp [true_and, -List.map_take, -List.map_drop, cut_map, atI_lit, ixN_lit, fAdd, fI, fI0, sIf, sSet, sIx, sRetV, sRet, sRetN, sNext, sDrop, sAsg, tsAnd, tsOr, tsNot, tsV, rOp, rVar, rC, HTr.rIx, ixL, start0, fEq, eqAtom, strip_pin, strip_at, strip_non, strip_bl, strip_int, strip_str, strip_ftup, strip_flst, strip_fdct, strip_fobj, strip_box, strip_scr, strip_tup, strip_lst, strip_dct, strip_obj, L.tree, L.trees, L.isFz, rCa, fLen, aCons, aNil, fCmp, pVar, endOf, backs, rAndV, rOrV, rNotV, rIf, rChain, rLst, rTup, mkTup, fInStr, fInSeq, fIsN, T.isNon, gSlot, gTupT, gsCons, gsNil, rSl, oNone, oSome, fSl, itemsF_fz, itemsF_fzc, trees_fzc, itemsF_lst, itemsF_tup, itemsF_str, itemsF_scr, itemsFT_tup, itemsFT_lst, itemsFT_str, itemsFT_scr, cut_to, frz_map, frz_cons, frz_nil, rIs, T.ty?, tyIs, rFld, look]
      refine ⟨by decide, hk1.h _ ?_⟩
      clear hk1 k1
      refine seq_gen fun k1 hk1 => ?_
      replace hk1 := Hid.mk hk1
      simp [sForE, oNone, oSome, -List.map_take, -List.map_drop, cut_map, atI_lit, ixN_lit, fAdd, fI, fI0, sIf, sSet, sIx, sRetV, sRet, sRetN, sNext, sDrop, sAsg, tsAnd, tsOr, tsNot, tsV, rOp, rVar, rC, HTr.rIx, ixL, start0, fEq, eqAtom, strip_pin, strip_at, strip_non, strip_bl, strip_int, strip_str, strip_ftup, strip_flst, strip_fdct, strip_fobj, strip_box, strip_scr, strip_tup, strip_lst, strip_dct, strip_obj, L.tree, L.trees, L.isFz, rCa, fLen, aCons, aNil, fCmp, pVar, endOf, backs, rAndV, rOrV, rNotV, rIf, rChain, rLst, rTup, mkTup, fInStr, fInSeq, fIsN, T.isNon, gSlot, gTupT, gsCons, gsNil, rSl, oNone, oSome, fSl, itemsF_fz, itemsF_fzc, trees_fzc, itemsF_lst, itemsF_tup, itemsF_str, itemsF_scr, itemsFT_tup, itemsFT_lst, itemsFT_str, itemsFT_scr, cut_to, frz_map, frz_cons, frz_nil, rIs, T.ty?, tyIs, rFld, look]
      rw [cut_drop, List.drop_succ_cons, List.drop_zero, enumS]
      refine wrongLoop n (by omega) ws [] 0 none none none (fun w hw => by have := hl0 w (by simp [hw]); omega) (fun i hi S => ⟨[], rfl, hE (i + 1) (by rw [hr, hi])⟩) fun ts hi S => ?_
      refine hk1.h _ ?_
      exact ⟨rfl, [], rfl, hG _ (by rw [hr, hi])⟩
end W
namespace W
open PySem L2 HTr
def spLawWords : SpT := fun ls G => ∃ w : Wb, ls = [.fz w.tup] ∧ w.ok ∧ G (.fz (.str w.text)) []
theorem vc_law_words : ∀ ls G, spLawWords ls G → m_law_words (endOf ls G) (start0 N_law_words.length ls) := by
  rintro ls G ⟨w, rfl, ok, hG⟩
  have hz : 20000 < sizeLine := by decide
  have h3 := Wb.alen ok
  have h4 := Wb.mlen ok
  have h9 := num_log ok.n81
  have h9' : w.n.log2 < 1920 := by simpa using h9
  unfold m_law_words
  refine seq_gen fun k1 hk1 => ?_
  replace hk1 := Hid.mk hk1
  simp [rCompS, wipeS, fStr, Wb.tup, -List.map_take, -List.map_drop, cut_map, atI_lit, ixN_lit, fAdd, fI, fI0, sIf, sSet, sIx, sRetV, sRet, sRetN, sNext, sDrop, sAsg, tsAnd, tsOr, tsNot, tsV, rOp, rVar, rC, HTr.rIx, ixL, start0, fEq, eqAtom, strip_pin, strip_at, strip_non, strip_bl, strip_int, strip_str, strip_ftup, strip_flst, strip_fdct, strip_fobj, strip_box, strip_scr, strip_tup, strip_lst, strip_dct, strip_obj, L.tree, L.trees, L.isFz, rCa, fLen, aCons, aNil, fCmp, pVar, endOf, backs, rAndV, rOrV, rNotV, rIf, rChain, rLst, rTup, mkTup, fInStr, fInSeq, fIsN, T.isNon, gSlot, gTupT, gsCons, gsNil, rSl, oNone, oSome, fSl, itemsF_fz, itemsF_fzc, trees_fzc, itemsF_lst, itemsF_tup, itemsF_str, itemsF_scr, itemsFT_tup, itemsFT_lst, itemsFT_str, itemsFT_scr, cut_to, frz_map, frz_cons, frz_nil, rIs, T.ty?, tyIs, rFld, look]
  rw [numS_eq]
  refine ⟨h9', by decide, ?_⟩
  refine compL_map (f := fun y => .fz (.str (arwS y))) (fun y hy X hX => ?_) (by simp; omega) ?_
  · obtain ⟨y1, y2, y3⟩ := ok.aok y hy
    have n81 := ok.n81
    have la := num_log (n := y.a) (by omega)
    have lb := num_log (n := y.b) (by omega)
    have ka := num_len (n := y.a) (by omega)
    have kb := num_len (n := y.b) (by omega)
    have kc := col_len1 y1
    have la' : y.a.log2 < 1920 := by simpa using la
    have lb' : y.b.log2 < 1920 := by simpa using lb
    simp [Arw.t, fStr, -List.map_take, -List.map_drop, cut_map, atI_lit, ixN_lit, fAdd, fI, fI0, sIf, sSet, sIx, sRetV, sRet, sRetN, sNext, sDrop, sAsg, tsAnd, tsOr, tsNot, tsV, rOp, rVar, rC, HTr.rIx, ixL, start0, fEq, eqAtom, strip_pin, strip_at, strip_non, strip_bl, strip_int, strip_str, strip_ftup, strip_flst, strip_fdct, strip_fobj, strip_box, strip_scr, strip_tup, strip_lst, strip_dct, strip_obj, L.tree, L.trees, L.isFz, rCa, fLen, aCons, aNil, fCmp, pVar, endOf, backs, rAndV, rOrV, rNotV, rIf, rChain, rLst, rTup, mkTup, fInStr, fInSeq, fIsN, T.isNon, gSlot, gTupT, gsCons, gsNil, rSl, oNone, oSome, fSl, itemsF_fz, itemsF_fzc, trees_fzc, itemsF_lst, itemsF_tup, itemsF_str, itemsF_scr, itemsFT_tup, itemsFT_lst, itemsFT_str, itemsFT_scr, cut_to, frz_map, frz_cons, frz_nil, rIs, T.ty?, tyIs, rFld, look]
    rw [numS_eq, numS_eq]
    exact ⟨la', by omega, lb', by rw [app_len]; omega, hX⟩
  rw [List.nil_append, strs_map]
  have i1 : itemsF (L.lst [L.fz (T.str (numS w.n))]) = some [T.str (numS w.n)] := rfl
  rw [i1, itemsF_fzc']
  dsimp only
  refine ⟨by simp; omega, hk1.h _ ?_⟩
  clear hk1 k1
  have eT : L.trees (List.map L.fz [T.str (numS w.n)] ++ List.map L.fz ((w.as.map arwS).map T.str)) = (numS w.n :: w.as.map arwS).map T.str := by
    rw [← List.map_append, L.trees_fz]; rfl
  rw [eT]
  simp [rCompS, wipeS, rJoin, -List.map_take, -List.map_drop, cut_map, atI_lit, ixN_lit, fAdd, fI, fI0, sIf, sSet, sIx, sRetV, sRet, sRetN, sNext, sDrop, sAsg, tsAnd, tsOr, tsNot, tsV, rOp, rVar, rC, HTr.rIx, ixL, start0, fEq, eqAtom, strip_pin, strip_at, strip_non, strip_bl, strip_int, strip_str, strip_ftup, strip_flst, strip_fdct, strip_fobj, strip_box, strip_scr, strip_tup, strip_lst, strip_dct, strip_obj, L.tree, L.trees, L.isFz, rCa, fLen, aCons, aNil, fCmp, pVar, endOf, backs, rAndV, rOrV, rNotV, rIf, rChain, rLst, rTup, mkTup, fInStr, fInSeq, fIsN, T.isNon, gSlot, gTupT, gsCons, gsNil, rSl, oNone, oSome, fSl, itemsF_fz, itemsF_fzc, trees_fzc, itemsF_lst, itemsF_tup, itemsF_str, itemsF_scr, itemsFT_tup, itemsFT_lst, itemsFT_str, itemsFT_scr, cut_to, frz_map, frz_cons, frz_nil, rIs, T.ty?, tyIs, rFld, look]
  refine compL_map (f := fun y => .fz (.str (mrkS y))) (fun y hy X hX => ?_) (by simp; omega) ?_
  · obtain ⟨y1, y2⟩ := ok.mok y hy
    have n81 := ok.n81
    have la := num_log (n := y.a) (by omega)
    have ka := num_len (n := y.a) (by omega)
    have kc := mrk_len1 y1
    have la' : y.a.log2 < 1920 := by simpa using la
    simp [Mrk.t, fStr, -List.map_take, -List.map_drop, cut_map, atI_lit, ixN_lit, fAdd, fI, fI0, sIf, sSet, sIx, sRetV, sRet, sRetN, sNext, sDrop, sAsg, tsAnd, tsOr, tsNot, tsV, rOp, rVar, rC, HTr.rIx, ixL, start0, fEq, eqAtom, strip_pin, strip_at, strip_non, strip_bl, strip_int, strip_str, strip_ftup, strip_flst, strip_fdct, strip_fobj, strip_box, strip_scr, strip_tup, strip_lst, strip_dct, strip_obj, L.tree, L.trees, L.isFz, rCa, fLen, aCons, aNil, fCmp, pVar, endOf, backs, rAndV, rOrV, rNotV, rIf, rChain, rLst, rTup, mkTup, fInStr, fInSeq, fIsN, T.isNon, gSlot, gTupT, gsCons, gsNil, rSl, oNone, oSome, fSl, itemsF_fz, itemsF_fzc, trees_fzc, itemsF_lst, itemsF_tup, itemsF_str, itemsF_scr, itemsFT_tup, itemsFT_lst, itemsFT_str, itemsFT_scr, cut_to, frz_map, frz_cons, frz_nil, rIs, T.ty?, tyIs, rFld, look]
    rw [numS_eq]
    exact ⟨la', by omega, hX⟩
  rw [List.nil_append, strs_map]
  rw [itemsF_fzc']
  dsimp only
  refine ⟨by simp; omega, w.words, ?_, words_size ok, hG⟩
  unfold seqItems
  show some (L.trees _) = _
  rw [← List.map_append, L.trees_fz]
  simp [Wb.words]
def mu (ws : List Str) : Nat := (ws.map (·.length)).sum + ws.length
theorem mu_app (a b : List Str) : mu (a ++ b) = mu a + mu b := by
  unfold mu; simp; omega
theorem mu_take (a : List Str) (i : Nat) : mu (a.take i) ≤ mu a := by
  have := mu_app (a.take i) (a.drop i)
  rw [List.take_append_drop] at this; omega
theorem mu_drop (a : List Str) (i : Nat) : mu (a.drop i) ≤ mu a := by
  have := mu_app (a.take i) (a.drop i)
  rw [List.take_append_drop] at this; omega
theorem mu_td (a : List Str) (i : Nat) : mu (a.take i) + mu (a.drop i) = mu a := by
  have := mu_app (a.take i) (a.drop i)
  rw [List.take_append_drop] at this; omega
theorem spl1_mu (c : Nat) : ∀ (l acc : List Nat), ((spl1 c acc l).map List.length).sum + (spl1 c acc l).length ≤ acc.length + l.length + 1
  | [], acc => by simp [spl1]
  | x :: r, acc => by
    unfold spl1
    split
    · have := spl1_mu c r []
      simp at this ⊢; omega
    · have := spl1_mu c r (acc ++ [x])
      simp at this ⊢; omega
theorem mu_split (x : Str) : mu (Txt.split x " ") ≤ x.length + 1 := by
  rw [split_one]
  unfold mu
  have := spl1_mu 32 x.cps.toList []
  rw [len_cps, List.map_map]
  have e : ((fun s : Str => s.length) ∘ SX.S) = List.length := by
    funext z; exact SX.S_len z
  rw [e]
  simpa using this
theorem join_mu (ws : List Str) : (Txt.join " " ws).length ≤ mu ws := by
  have h1 := join_len " " ws
  have h3 : (" " : Str).length = 1 := by decide
  rw [h3] at h1
  unfold mu; omega
theorem rev2 {α : Type} : ∀ {xs : List α}, xs.length ≤ 2 → stepL xs (-1) = xs.reverse
  | [], _ => rfl
  | [_], _ => by
    unfold stepL
    have e : sliceRange (sliceBounds none none (some (-1)) 1).1 (sliceBounds none none (some (-1)) 1).2.1 (sliceBounds none none (some (-1)) 1).2.2 = [0] := by decide +kernel
    show (sliceRange (sliceBounds none none (some (-1)) 1).1 (sliceBounds none none (some (-1)) 1).2.1 (sliceBounds none none (some (-1)) 1).2.2).filterMap _ = _
    rw [e]; rfl
  | [_, _], _ => by
    unfold stepL
    have e : sliceRange (sliceBounds none none (some (-1)) 2).1 (sliceBounds none none (some (-1)) 2).2.1 (sliceBounds none none (some (-1)) 2).2.2 = [1, 0] := by decide +kernel
    show (sliceRange (sliceBounds none none (some (-1)) 2).1 (sliceBounds none none (some (-1)) 2).2.1 (sliceBounds none none (some (-1)) 2).2.2).filterMap _ = _
    rw [e]; rfl
def odds5 : List Str := ["", "0a0", "p0", "0b00", "00a0", "0a", "a0", "0a0a0"]
def odds5b : List Str := ["82", "81", "p", "0p", "100a1"]
theorem cut_midN {α : Type} (xs : List α) (p d : Nat) : cut xs (some (p : Int)) (some (((p + d : Nat) : Int))) = (xs.drop p).take d := by
  unfold cut
  rw [HT.sIx_nat, HT.sIx_nat]
  by_cases c : p ≤ xs.length
  · rw [Nat.min_eq_left c, List.take_eq_take_iff, List.length_drop]; omega
  · have e1 : xs.drop p = [] := List.drop_of_length_le (by omega)
    have e2 : xs.drop (min p xs.length) = [] := List.drop_of_length_le (by omega)
    rw [e1, e2, List.take_nil, List.take_nil]
theorem strs_all (A B C : List Str) : List.map L.fz (A.map T.str ++ B.map T.str) ++ List.map L.fz (C.map T.str) = (A ++ B ++ C).map (L.fz ∘ T.str) := by
  simp
theorem join_fin {G : L → List L → Prop} {ws : List Str} {n : Nat} (hn : n ≤ 1000000) (h : mu ws ≤ n) (hG : ∀ y : Str, y.length ≤ n → G (.fz (.str y)) []) : ∃ ys : List Str, seqItems (L.lst (ws.map (L.fz ∘ T.str))) = some (ys.map T.str) ∧ (ys.map (fun x => x.length)).sum + ys.length * (Str.ofString " ").length ≤ 16777216 ∧ G (.fz (.str (Txt.join (Str.ofString " ") ys))) [] := by
  refine ⟨ws, ?_, ?_, hG _ (Nat.le_trans (join_mu ws) h)⟩
  · show some (L.trees (ws.map (L.fz ∘ T.str))) = _
    rw [← List.map_map, L.trees_fz]
  · unfold mu at h
    have h3 : (Str.ofString " " : Str).length = 1 := by decide
    rw [h3]
    show (ws.map (·.length)).sum + _ ≤ _
    omega
def spBentWords : SpT := fun ls G => ∃ (b : Nat) (x : Str), ls = [.fz (.box b), .fz (.str x)] ∧ x.length ≤ 10000 ∧ ∀ y : Str, y.length ≤ 2 * x.length + 10 → G (.fz (.str y)) []
theorem vc_bent_words : ∀ ls G, spBentWords ls G → m_law_bent_words spTake spOne (endOf ls G) (start0 N_law_bent_words.length ls) := by
  rintro ls G ⟨b, x, rfl, hx, hG⟩
  have hz : 2000000 < sizeLine := by decide
  have hb : big = 1000000 := rfl
  have hs := split_len x
  have hm := mu_split x
  unfold m_law_bent_words
  refine seq_gen fun k1 hk1 => ?_
  replace hk1 := Hid.mk hk1
  simp [rCallU, -List.map_take, -List.map_drop, cut_map, atI_lit, ixN_lit, fAdd, fI, fI0, sIf, sSet, sIx, sRetV, sRet, sRetN, sNext, sDrop, sAsg, tsAnd, tsOr, tsNot, tsV, rOp, rVar, rC, HTr.rIx, ixL, start0, fEq, eqAtom, strip_pin, strip_at, strip_non, strip_bl, strip_int, strip_str, strip_ftup, strip_flst, strip_fdct, strip_fobj, strip_box, strip_scr, strip_tup, strip_lst, strip_dct, strip_obj, L.tree, L.trees, L.isFz, rCa, fLen, aCons, aNil, fCmp, pVar, endOf, backs, rAndV, rOrV, rNotV, rIf, rChain, rLst, rTup, mkTup, fInStr, fInSeq, fIsN, T.isNon, gSlot, gTupT, gsCons, gsNil, rSl, oNone, oSome, fSl, itemsF_fz, itemsF_fzc, trees_fzc, itemsF_lst, itemsF_tup, itemsF_str, itemsF_scr, itemsFT_tup, itemsFT_lst, itemsFT_str, itemsFT_scr, cut_to, frz_map, frz_cons, frz_nil, rIs, T.ty?, tyIs, rFld, look]
  refine ⟨by omega, take_use (by omega) (by omega) fun r r0 r1 => ⟨.inl (.inl rfl), ?_⟩⟩
  obtain ⟨at_, rfl⟩ := Int.eq_ofNat_of_zero_le r0
  refine hk1.h _ ?_
  clear hk1 k1
  refine seq_gen fun k1 hk1 => ?_
  replace hk1 := Hid.mk hk1
  simp [rCallU, -List.map_take, -List.map_drop, cut_map, atI_lit, ixN_lit, fAdd, fI, fI0, sIf, sSet, sIx, sRetV, sRet, sRetN, sNext, sDrop, sAsg, tsAnd, tsOr, tsNot, tsV, rOp, rVar, rC, HTr.rIx, ixL, start0, fEq, eqAtom, strip_pin, strip_at, strip_non, strip_bl, strip_int, strip_str, strip_ftup, strip_flst, strip_fdct, strip_fobj, strip_box, strip_scr, strip_tup, strip_lst, strip_dct, strip_obj, L.tree, L.trees, L.isFz, rCa, fLen, aCons, aNil, fCmp, pVar, endOf, backs, rAndV, rOrV, rNotV, rIf, rChain, rLst, rTup, mkTup, fInStr, fInSeq, fIsN, T.isNon, gSlot, gTupT, gsCons, gsNil, rSl, oNone, oSome, fSl, itemsF_fz, itemsF_fzc, trees_fzc, itemsF_lst, itemsF_tup, itemsF_str, itemsF_scr, itemsFT_tup, itemsFT_lst, itemsFT_str, itemsFT_scr, cut_to, frz_map, frz_cons, frz_nil, rIs, T.ty?, tyIs, rFld, look]
  refine ⟨by decide, one_use (ts := [.str "0", .str "1", .str "9", .str "a", .str "c", .str "p", .str "r", .str " ", .str "d", .str "-"]) (by simp) (by decide) fun t ht => ⟨.inl (.inl rfl), ?_⟩⟩
  obtain ⟨g, rfl, g1⟩ : ∃ g : Str, t = .str g ∧ g.length = 1 := by
    simp at ht
    rcases ht with rfl | rfl | rfl | rfl | rfl | rfl | rfl | rfl | rfl | rfl <;> exact ⟨_, rfl, by decide⟩
  clear ht
  refine hk1.h _ ?_
  clear hk1 k1
  refine seq_gen fun k1 hk1 => ?_
  replace hk1 := Hid.mk hk1
  simp [rSplit, -List.map_take, -List.map_drop, cut_map, atI_lit, ixN_lit, fAdd, fI, fI0, sIf, sSet, sIx, sRetV, sRet, sRetN, sNext, sDrop, sAsg, tsAnd, tsOr, tsNot, tsV, rOp, rVar, rC, HTr.rIx, ixL, start0, fEq, eqAtom, strip_pin, strip_at, strip_non, strip_bl, strip_int, strip_str, strip_ftup, strip_flst, strip_fdct, strip_fobj, strip_box, strip_scr, strip_tup, strip_lst, strip_dct, strip_obj, L.tree, L.trees, L.isFz, rCa, fLen, aCons, aNil, fCmp, pVar, endOf, backs, rAndV, rOrV, rNotV, rIf, rChain, rLst, rTup, mkTup, fInStr, fInSeq, fIsN, T.isNon, gSlot, gTupT, gsCons, gsNil, rSl, oNone, oSome, fSl, itemsF_fz, itemsF_fzc, trees_fzc, itemsF_lst, itemsF_tup, itemsF_str, itemsF_scr, itemsFT_tup, itemsFT_lst, itemsFT_str, itemsFT_scr, cut_to, frz_map, frz_cons, frz_nil, rIs, T.ty?, tyIs, rFld, look]
  refine ⟨by decide, by omega, hk1.h _ ?_⟩
  clear hk1 k1
  generalize hws : Txt.split x (Str.ofString " ") = ws
  have hs1 : ws.length ≤ x.length + 1 := by rw [← hws]; exact hs.1
  have hm1 : mu ws ≤ x.length + 1 := by rw [← hws]; exact hm
  have hne : 0 < ws.length := by
    rw [← hws]
    have e := split_one x
    rw [show (Str.ofString " ") = (" " : Str) from rfl, e]
    have := spl1_ne 32 x.cps.toList []
    cases h : spl1 32 [] x.cps.toList with
    | nil => exact absurd h this
    | cons => simp
  refine seq_gen fun k1 hk1 => ?_
  replace hk1 := Hid.mk hk1
  simp [rCallU, -List.map_take, -List.map_drop, cut_map, atI_lit, ixN_lit, fAdd, fI, fI0, sIf, sSet, sIx, sRetV, sRet, sRetN, sNext, sDrop, sAsg, tsAnd, tsOr, tsNot, tsV, rOp, rVar, rC, HTr.rIx, ixL, start0, fEq, eqAtom, strip_pin, strip_at, strip_non, strip_bl, strip_int, strip_str, strip_ftup, strip_flst, strip_fdct, strip_fobj, strip_box, strip_scr, strip_tup, strip_lst, strip_dct, strip_obj, L.tree, L.trees, L.isFz, rCa, fLen, aCons, aNil, fCmp, pVar, endOf, backs, rAndV, rOrV, rNotV, rIf, rChain, rLst, rTup, mkTup, fInStr, fInSeq, fIsN, T.isNon, gSlot, gTupT, gsCons, gsNil, rSl, oNone, oSome, fSl, itemsF_fz, itemsF_fzc, trees_fzc, itemsF_lst, itemsF_tup, itemsF_str, itemsF_scr, itemsFT_tup, itemsFT_lst, itemsFT_str, itemsFT_scr, cut_to, frz_map, frz_cons, frz_nil, rIs, T.ty?, tyIs, rFld, look]
  refine take_use (by omega) (by omega) fun r p0 p1 => ⟨.inl (.inl rfl), ?_⟩
  obtain ⟨sp, rfl⟩ := Int.eq_ofNat_of_zero_le p0
  refine hk1.h _ ?_
  clear hk1 k1
  refine seq_gen fun k1 hk1 => ?_
  replace hk1 := Hid.mk hk1
  simp [rCallU, -List.map_take, -List.map_drop, cut_map, atI_lit, ixN_lit, fAdd, fI, fI0, sIf, sSet, sIx, sRetV, sRet, sRetN, sNext, sDrop, sAsg, tsAnd, tsOr, tsNot, tsV, rOp, rVar, rC, HTr.rIx, ixL, start0, fEq, eqAtom, strip_pin, strip_at, strip_non, strip_bl, strip_int, strip_str, strip_ftup, strip_flst, strip_fdct, strip_fobj, strip_box, strip_scr, strip_tup, strip_lst, strip_dct, strip_obj, L.tree, L.trees, L.isFz, rCa, fLen, aCons, aNil, fCmp, pVar, endOf, backs, rAndV, rOrV, rNotV, rIf, rChain, rLst, rTup, mkTup, fInStr, fInSeq, fIsN, T.isNon, gSlot, gTupT, gsCons, gsNil, rSl, oNone, oSome, fSl, itemsF_fz, itemsF_fzc, trees_fzc, itemsF_lst, itemsF_tup, itemsF_str, itemsF_scr, itemsFT_tup, itemsFT_lst, itemsFT_str, itemsFT_scr, cut_to, frz_map, frz_cons, frz_nil, rIs, T.ty?, tyIs, rFld, look]
  refine take_use (by omega) (by omega) fun r f0 f1 => ⟨.inl (.inl rfl), ?_⟩
  obtain ⟨fo, rfl⟩ := Int.eq_ofNat_of_zero_le f0
  refine hk1.h _ ?_
  clear hk1 k1
  refine seq_gen fun k1 hk1 => ?_
  replace hk1 := Hid.mk hk1
  simp [oSome, oNone, -List.map_take, -List.map_drop, cut_map, atI_lit, ixN_lit, fAdd, fI, fI0, sIf, sSet, sIx, sRetV, sRet, sRetN, sNext, sDrop, sAsg, tsAnd, tsOr, tsNot, tsV, rOp, rVar, rC, HTr.rIx, ixL, start0, fEq, eqAtom, strip_pin, strip_at, strip_non, strip_bl, strip_int, strip_str, strip_ftup, strip_flst, strip_fdct, strip_fobj, strip_box, strip_scr, strip_tup, strip_lst, strip_dct, strip_obj, L.tree, L.trees, L.isFz, rCa, fLen, aCons, aNil, fCmp, pVar, endOf, backs, rAndV, rOrV, rNotV, rIf, rChain, rLst, rTup, mkTup, fInStr, fInSeq, fIsN, T.isNon, gSlot, gTupT, gsCons, gsNil, rSl, oNone, oSome, fSl, itemsF_fz, itemsF_fzc, trees_fzc, itemsF_lst, itemsF_tup, itemsF_str, itemsF_scr, itemsFT_tup, itemsFT_lst, itemsFT_str, itemsFT_scr, cut_to, frz_map, frz_cons, frz_nil, rIs, T.ty?, tyIs, rFld, look]
  split
  · refine seq_gen fun k2 hk2 => ?_
    replace hk2 := Hid.mk hk2
    have lA : ∀ i : Nat, (cutS x none (some (i : Int))).length ≤ x.length := fun i => by
      rw [cut_to_S, SX.S_len, List.length_take, len_cps]; exact Nat.min_le_right _ _
    have lB : ∀ i : Nat, (cutS x (some (i : Int)) none).length ≤ x.length := fun i => by
      rw [cut_from_S, SX.S_len, List.length_drop, len_cps]; omega
    have fin : ∀ i : Nat, k2 [some (L.fz (T.box b)), some (L.fz (T.str x)), some (L.fz (T.int (at_ : Int))), some (L.fz (T.str g)), some (L.fz (T.lst (List.map T.str ws))), some (L.fz (T.int (sp : Int))), some (L.fz (T.int (fo : Int))), none, none, some (L.fz (T.str (cutS x (some (i : Int)) none))), none] := by
      intro i
      have l2 := lB i
      refine hk2.h _ ?_
      clear hk2 k2
      have l1 := lA at_
      simp [oSome, oNone, fInt, fMulS, -List.map_take, -List.map_drop, cut_map, atI_lit, ixN_lit, fAdd, fI, fI0, sIf, sSet, sIx, sRetV, sRet, sRetN, sNext, sDrop, sAsg, tsAnd, tsOr, tsNot, tsV, rOp, rVar, rC, HTr.rIx, ixL, start0, fEq, eqAtom, strip_pin, strip_at, strip_non, strip_bl, strip_int, strip_str, strip_ftup, strip_flst, strip_fdct, strip_fobj, strip_box, strip_scr, strip_tup, strip_lst, strip_dct, strip_obj, L.tree, L.trees, L.isFz, rCa, fLen, aCons, aNil, fCmp, pVar, endOf, backs, rAndV, rOrV, rNotV, rIf, rChain, rLst, rTup, mkTup, fInStr, fInSeq, fIsN, T.isNon, gSlot, gTupT, gsCons, gsNil, rSl, oNone, oSome, fSl, itemsF_fz, itemsF_fzc, trees_fzc, itemsF_lst, itemsF_tup, itemsF_str, itemsF_scr, itemsFT_tup, itemsFT_lst, itemsFT_str, itemsFT_scr, cut_to, frz_map, frz_cons, frz_nil, rIs, T.ty?, tyIs, rFld, look]
      refine ⟨by omega, ?_⟩
      split
      · refine ⟨⟨by decide, fun _ h => absurd h (by simp), fun _ h => absurd h (by simp)⟩, ?_⟩
        have e : (Txt.mul g 1) = g := by unfold Txt.mul; rw [if_neg (by decide), if_pos (by simp)]
        rw [e]
        refine ⟨by omega, by simp only [app_len]; omega, hG _ ?_⟩
        simp only [app_len]; omega
      · refine ⟨⟨by decide, fun h => absurd (by decide) h, fun h => absurd (by decide) h⟩, ?_⟩
        have e : (Txt.mul g 0) = Str.empty := by unfold Txt.mul; rw [if_pos (by decide)]
        have e0 : Str.empty.length = 0 := by decide
        rw [e]
        refine ⟨by omega, by simp only [app_len]; omega, hG _ ?_⟩
        simp only [app_len]; omega
    simp [oSome, oNone, fInt, -List.map_take, -List.map_drop, cut_map, atI_lit, ixN_lit, fAdd, fI, fI0, sIf, sSet, sIx, sRetV, sRet, sRetN, sNext, sDrop, sAsg, tsAnd, tsOr, tsNot, tsV, rOp, rVar, rC, HTr.rIx, ixL, start0, fEq, eqAtom, strip_pin, strip_at, strip_non, strip_bl, strip_int, strip_str, strip_ftup, strip_flst, strip_fdct, strip_fobj, strip_box, strip_scr, strip_tup, strip_lst, strip_dct, strip_obj, L.tree, L.trees, L.isFz, rCa, fLen, aCons, aNil, fCmp, pVar, endOf, backs, rAndV, rOrV, rNotV, rIf, rChain, rLst, rTup, mkTup, fInStr, fInSeq, fIsN, T.isNon, gSlot, gTupT, gsCons, gsNil, rSl, oNone, oSome, fSl, itemsF_fz, itemsF_fzc, trees_fzc, itemsF_lst, itemsF_tup, itemsF_str, itemsF_scr, itemsFT_tup, itemsFT_lst, itemsFT_str, itemsFT_scr, cut_to, frz_map, frz_cons, frz_nil, rIs, T.ty?, tyIs, rFld, look]
    split
    · exact ⟨by omega, fin (at_ + 1)⟩
    · rw [Int.add_zero]
      exact ⟨by omega, fin at_⟩
  refine hk1.h _ ?_
  clear hk1 k1
  refine seq_gen fun k1 hk1 => ?_
  replace hk1 := Hid.mk hk1
  simp [oSome, oNone, rJoin, -List.map_take, -List.map_drop, cut_map, atI_lit, ixN_lit, fAdd, fI, fI0, sIf, sSet, sIx, sRetV, sRet, sRetN, sNext, sDrop, sAsg, tsAnd, tsOr, tsNot, tsV, rOp, rVar, rC, HTr.rIx, ixL, start0, fEq, eqAtom, strip_pin, strip_at, strip_non, strip_bl, strip_int, strip_str, strip_ftup, strip_flst, strip_fdct, strip_fobj, strip_box, strip_scr, strip_tup, strip_lst, strip_dct, strip_obj, L.tree, L.trees, L.isFz, rCa, fLen, aCons, aNil, fCmp, pVar, endOf, backs, rAndV, rOrV, rNotV, rIf, rChain, rLst, rTup, mkTup, fInStr, fInSeq, fIsN, T.isNon, gSlot, gTupT, gsCons, gsNil, rSl, oNone, oSome, fSl, itemsF_fz, itemsF_fzc, trees_fzc, itemsF_lst, itemsF_tup, itemsF_str, itemsF_scr, itemsFT_tup, itemsFT_lst, itemsFT_str, itemsFT_scr, cut_to, frz_map, frz_cons, frz_nil, rIs, T.ty?, tyIs, rFld, look]
  split
  · rw [← List.map_append, show ((sp : Int) + 1) = ((sp + 1 : Nat) : Int) by omega, cut_toN, cut_fromN0]
    have h1 := mu_td ws sp
    have h2 := mu_take ws (sp + 1)
    have h3 := mu_drop ws sp
    exact ⟨by simp; omega, join_fin (n := 2 * x.length + 10) (by omega) (by rw [mu_app]; omega) hG⟩
  refine hk1.h _ ?_
  clear hk1 k1
  refine seq_gen fun k1 hk1 => ?_
  replace hk1 := Hid.mk hk1
  simp [oSome, oNone, rJoin, -List.map_take, -List.map_drop, cut_map, atI_lit, ixN_lit, fAdd, fI, fI0, sIf, sSet, sIx, sRetV, sRet, sRetN, sNext, sDrop, sAsg, tsAnd, tsOr, tsNot, tsV, rOp, rVar, rC, HTr.rIx, ixL, start0, fEq, eqAtom, strip_pin, strip_at, strip_non, strip_bl, strip_int, strip_str, strip_ftup, strip_flst, strip_fdct, strip_fobj, strip_box, strip_scr, strip_tup, strip_lst, strip_dct, strip_obj, L.tree, L.trees, L.isFz, rCa, fLen, aCons, aNil, fCmp, pVar, endOf, backs, rAndV, rOrV, rNotV, rIf, rChain, rLst, rTup, mkTup, fInStr, fInSeq, fIsN, T.isNon, gSlot, gTupT, gsCons, gsNil, rSl, oNone, oSome, fSl, itemsF_fz, itemsF_fzc, trees_fzc, itemsF_lst, itemsF_tup, itemsF_str, itemsF_scr, itemsFT_tup, itemsFT_lst, itemsFT_str, itemsFT_scr, cut_to, frz_map, frz_cons, frz_nil, rIs, T.ty?, tyIs, rFld, look]
  split
  · rw [← List.map_append, show ((sp : Int) + 1) = ((sp + 1 : Nat) : Int) by omega, cut_toN, cut_fromN0]
    have h1 := mu_take ws sp
    have h2 := mu_drop ws (sp + 1)
    exact ⟨by simp; omega, join_fin (n := 2 * x.length + 10) (by omega) (by rw [mu_app]; omega) hG⟩
  refine hk1.h _ ?_
  clear hk1 k1
  refine seq_gen fun k1 hk1 => ?_
  replace hk1 := Hid.mk hk1
  simp [oSome, oNone, rJoin, -List.map_take, -List.map_drop, cut_map, atI_lit, ixN_lit, fAdd, fI, fI0, sIf, sSet, sIx, sRetV, sRet, sRetN, sNext, sDrop, sAsg, tsAnd, tsOr, tsNot, tsV, rOp, rVar, rC, HTr.rIx, ixL, start0, fEq, eqAtom, strip_pin, strip_at, strip_non, strip_bl, strip_int, strip_str, strip_ftup, strip_flst, strip_fdct, strip_fobj, strip_box, strip_scr, strip_tup, strip_lst, strip_dct, strip_obj, L.tree, L.trees, L.isFz, rCa, fLen, aCons, aNil, fCmp, pVar, endOf, backs, rAndV, rOrV, rNotV, rIf, rChain, rLst, rTup, mkTup, fInStr, fInSeq, fIsN, T.isNon, gSlot, gTupT, gsCons, gsNil, rSl, oNone, oSome, fSl, itemsF_fz, itemsF_fzc, trees_fzc, itemsF_lst, itemsF_tup, itemsF_str, itemsF_scr, itemsFT_tup, itemsFT_lst, itemsFT_str, itemsFT_scr, cut_to, frz_map, frz_cons, frz_nil, rIs, T.ty?, tyIs, rFld, look]
  split
  · refine seq_gen fun k2 hk2 => ?_
    replace hk2 := Hid.mk hk2
    simp [oSome, oNone, rStep, -List.map_take, -List.map_drop, cut_map, atI_lit, ixN_lit, fAdd, fI, fI0, sIf, sSet, sIx, sRetV, sRet, sRetN, sNext, sDrop, sAsg, tsAnd, tsOr, tsNot, tsV, rOp, rVar, rC, HTr.rIx, ixL, start0, fEq, eqAtom, strip_pin, strip_at, strip_non, strip_bl, strip_int, strip_str, strip_ftup, strip_flst, strip_fdct, strip_fobj, strip_box, strip_scr, strip_tup, strip_lst, strip_dct, strip_obj, L.tree, L.trees, L.isFz, rCa, fLen, aCons, aNil, fCmp, pVar, endOf, backs, rAndV, rOrV, rNotV, rIf, rChain, rLst, rTup, mkTup, fInStr, fInSeq, fIsN, T.isNon, gSlot, gTupT, gsCons, gsNil, rSl, oNone, oSome, fSl, itemsF_fz, itemsF_fzc, trees_fzc, itemsF_lst, itemsF_tup, itemsF_str, itemsF_scr, itemsFT_tup, itemsFT_lst, itemsFT_str, itemsFT_scr, cut_to, frz_map, frz_cons, frz_nil, rIs, T.ty?, tyIs, rFld, look]
    have ec : cut ws (some (sp : Int)) (some ((sp : Int) + 2)) = (ws.drop sp).take 2 := cut_midN ws sp 2
    rw [ec, rev2 (by rw [List.length_map, List.length_take]; omega)]
    refine hk2.h _ ?_
    clear hk2 k2
    simp [oSome, oNone, rJoin, -List.map_take, -List.map_drop, cut_map, atI_lit, ixN_lit, fAdd, fI, fI0, sIf, sSet, sIx, sRetV, sRet, sRetN, sNext, sDrop, sAsg, tsAnd, tsOr, tsNot, tsV, rOp, rVar, rC, HTr.rIx, ixL, start0, fEq, eqAtom, strip_pin, strip_at, strip_non, strip_bl, strip_int, strip_str, strip_ftup, strip_flst, strip_fdct, strip_fobj, strip_box, strip_scr, strip_tup, strip_lst, strip_dct, strip_obj, L.tree, L.trees, L.isFz, rCa, fLen, aCons, aNil, fCmp, pVar, endOf, backs, rAndV, rOrV, rNotV, rIf, rChain, rLst, rTup, mkTup, fInStr, fInSeq, fIsN, T.isNon, gSlot, gTupT, gsCons, gsNil, rSl, oNone, oSome, fSl, itemsF_fz, itemsF_fzc, trees_fzc, itemsF_lst, itemsF_tup, itemsF_str, itemsF_scr, itemsFT_tup, itemsFT_lst, itemsFT_str, itemsFT_scr, cut_to, frz_map, frz_cons, frz_nil, rIs, T.ty?, tyIs, rFld, look]
    have e2 : (sp : Int) + 2 = ((sp + 2 : Nat) : Int) := by omega
    rw [e2, cut_toN, cut_fromN0, ← List.map_reverse, itemsF_appc]
    dsimp only
    rw [strs_all]
    have h1 := mu_td ws sp
    have h2 := mu_td (ws.drop sp) 2
    rw [List.drop_drop] at h2
    have h3 : mu ((ws.drop sp).take 2).reverse = mu ((ws.drop sp).take 2) := by unfold mu; simp
    exact ⟨by simp; omega, by simp; omega, join_fin (n := 2 * x.length + 10) (by omega) (by rw [mu_app, mu_app]; omega) hG⟩
  refine hk1.h _ ?_
  clear hk1 k1
  refine seq_gen fun k1 hk1 => ?_
  replace hk1 := Hid.mk hk1
  simp [oSome, oNone, rJoin, -List.map_take, -List.map_drop, cut_map, atI_lit, ixN_lit, fAdd, fI, fI0, sIf, sSet, sIx, sRetV, sRet, sRetN, sNext, sDrop, sAsg, tsAnd, tsOr, tsNot, tsV, rOp, rVar, rC, HTr.rIx, ixL, start0, fEq, eqAtom, strip_pin, strip_at, strip_non, strip_bl, strip_int, strip_str, strip_ftup, strip_flst, strip_fdct, strip_fobj, strip_box, strip_scr, strip_tup, strip_lst, strip_dct, strip_obj, L.tree, L.trees, L.isFz, rCa, fLen, aCons, aNil, fCmp, pVar, endOf, backs, rAndV, rOrV, rNotV, rIf, rChain, rLst, rTup, mkTup, fInStr, fInSeq, fIsN, T.isNon, gSlot, gTupT, gsCons, gsNil, rSl, oNone, oSome, fSl, itemsF_fz, itemsF_fzc, trees_fzc, itemsF_lst, itemsF_tup, itemsF_str, itemsF_scr, itemsFT_tup, itemsFT_lst, itemsFT_str, itemsFT_scr, cut_to, frz_map, frz_cons, frz_nil, rIs, T.ty?, tyIs, rFld, look]
  refine ⟨by omega, hk1.h _ ?_⟩
  clear hk1 k1
  refine seq_gen fun k1 hk1 => ?_
  replace hk1 := Hid.mk hk1
  simp [rCallU, -List.map_take, -List.map_drop, cut_map, atI_lit, ixN_lit, fAdd, fI, fI0, sIf, sSet, sIx, sRetV, sRet, sRetN, sNext, sDrop, sAsg, tsAnd, tsOr, tsNot, tsV, rOp, rVar, rC, HTr.rIx, ixL, start0, fEq, eqAtom, strip_pin, strip_at, strip_non, strip_bl, strip_int, strip_str, strip_ftup, strip_flst, strip_fdct, strip_fobj, strip_box, strip_scr, strip_tup, strip_lst, strip_dct, strip_obj, L.tree, L.trees, L.isFz, rCa, fLen, aCons, aNil, fCmp, pVar, endOf, backs, rAndV, rOrV, rNotV, rIf, rChain, rLst, rTup, mkTup, fInStr, fInSeq, fIsN, T.isNon, gSlot, gTupT, gsCons, gsNil, rSl, oNone, oSome, fSl, itemsF_fz, itemsF_fzc, trees_fzc, itemsF_lst, itemsF_tup, itemsF_str, itemsF_scr, itemsFT_tup, itemsFT_lst, itemsFT_str, itemsFT_scr, cut_to, frz_map, frz_cons, frz_nil, rIs, T.ty?, tyIs, rFld, look]
  rw [show itemsF (L.lst [L.fz (T.str (Str.ofString "82")), L.fz (T.str (Str.ofString "81")), L.fz (T.str (Str.ofString "p")), L.fz (T.str (Str.ofString "0p")), L.fz (T.str (Str.ofString "100a1"))]) = some [T.str (Str.ofString "82"), T.str (Str.ofString "81"), T.str (Str.ofString "p"), T.str (Str.ofString "0p"), T.str (Str.ofString "100a1")] from rfl]
  dsimp only
  refine ⟨by omega, by simp; omega, one_use (ts := (odds5 ++ odds5b).map T.str) (by simp [odds5]) (by decide) fun t ht => ⟨.inl (.inl rfl), ?_⟩⟩
  obtain ⟨g2, g21, rfl⟩ : ∃ g2 : Str, g2.length ≤ 5 ∧ t = .str g2 := by
    obtain ⟨w, hw, rfl⟩ := List.mem_map.mp ht
    have : ∀ w ∈ odds5 ++ odds5b, w.length ≤ 5 := by decide
    exact ⟨w, this w hw, rfl⟩
  clear ht
  refine hk1.h _ ?_
  clear hk1 k1
  simp [oSome, oNone, rJoin, -List.map_take, -List.map_drop, cut_map, atI_lit, ixN_lit, fAdd, fI, fI0, sIf, sSet, sIx, sRetV, sRet, sRetN, sNext, sDrop, sAsg, tsAnd, tsOr, tsNot, tsV, rOp, rVar, rC, HTr.rIx, ixL, start0, fEq, eqAtom, strip_pin, strip_at, strip_non, strip_bl, strip_int, strip_str, strip_ftup, strip_flst, strip_fdct, strip_fobj, strip_box, strip_scr, strip_tup, strip_lst, strip_dct, strip_obj, L.tree, L.trees, L.isFz, rCa, fLen, aCons, aNil, fCmp, pVar, endOf, backs, rAndV, rOrV, rNotV, rIf, rChain, rLst, rTup, mkTup, fInStr, fInSeq, fIsN, T.isNon, gSlot, gTupT, gsCons, gsNil, rSl, oNone, oSome, fSl, itemsF_fz, itemsF_fzc, trees_fzc, itemsF_lst, itemsF_tup, itemsF_str, itemsF_scr, itemsFT_tup, itemsFT_lst, itemsFT_str, itemsFT_scr, cut_to, frz_map, frz_cons, frz_nil, rIs, T.ty?, tyIs, rFld, look]
  rw [show itemsF (L.lst [L.fz (T.str g2)]) = some ([g2].map T.str) from rfl]
  dsimp only
  rw [← List.map_append, itemsF_fz]
  dsimp only
  rw [← List.map_append, cut_toN, cut_fromN0, ← List.map_append, ← List.map_append (f := T.str), List.map_map]
  have h1 := mu_td ws sp
  have h3 : mu [g2] ≤ 6 := by unfold mu; simp; omega
  exact ⟨by omega, by simp; omega, by simp; omega, join_fin (n := 2 * x.length + 10) (by omega) (by rw [mu_app, mu_app]; omega) hG⟩
end W
namespace W
open PySem L2 HTr
structure Txt (K : PySem.W.Frag) (mg : Str → Option Value) (CBadArrow : Addr) (CBadMark : Addr) (CBadNumber : Addr) (CBadPoint : Addr) (CBadSize : Addr) (CBadStrike : Addr) (CBadText : Addr) (CTooMany : Addr) (CWeb : Addr) : Prop where
  c_Web : Cls K CWeb
  g_COLOURS : ∃ u, mg "COLOURS" = some u ∧ RelV (.str "abc") u
  g_FIGURES : ∃ u, mg "FIGURES" = some u ∧ RelV (.str "0123456789") u
  g_MARKS : ∃ u, mg "MARKS" = some u ∧ RelV (.str "pqr") u
  g_MOST_POINTS : ∃ u, mg "MOST_POINTS" = some u ∧ RelV (.int 81) u
  n_Web_arrow_list : NoAttr K CWeb "arrow_list"
  n_Web_backward : NoAttr K CWeb "backward"
  n_Web_many : NoAttr K CWeb "many"
  n_Web_mark_list : NoAttr K CWeb "mark_list"
  n_Web_onward : NoAttr K CWeb "onward"
  n_Web_spots_there : NoAttr K CWeb "spots_there"
  z_all : mg "all" = none
  z_bool : mg "bool" = none
  z_enumerate : mg "enumerate" = none
  z_int : mg "int" = none
  z_isinstance : mg "isinstance" = none
  z_len : mg "len" = none
  z_list : mg "list" = none
  z_max : mg "max" = none
  z_min : mg "min" = none
  z_range : mg "range" = none
  z_sorted : mg "sorted" = none
  z_str : mg "str" = none
  z_tuple : mg "tuple" = none
  z_zip : mg "zip" = none
section
variable {P : Program} {w : World} {K : PySem.W.Frag} {mg : Str → Option Value} {base : Heap} {CBadArrow : Addr} {CBadMark : Addr} {CBadNumber : Addr} {CBadPoint : Addr} {CBadSize : Addr} {CBadStrike : Addr} {CBadText : Addr} {CTooMany : Addr} {CWeb : Addr}
theorem sc_BadText_init : FnScope ["self", "at"] ["self", "at"] (defScope st_BadText_init) := ⟨rfl, rfl, rfl, by decide +kernel, rfl, by decide +kernel, by decide +kernel⟩
abbrev ps_law_at : List Str := ["_law_ask"]
theorem sc_law_at : FnScope Nat' ps_law_at (defScope st_law_at) := ⟨rfl, rfl, rfl, by decide +kernel, rfl, by decide +kernel, by decide +kernel⟩
abbrev N_law : List Str := ["_law_script", "_law_box_here", "_law_k", "_law_ends", "_law_text", "_law_step", "_law_due", "_law_found", "e"]
abbrev ps_law : List Str := ["_law_script"]
def m_law (sp_law_box : SpT) (sp_law_words : SpT) (sp_law_web : SpT) (sp_law_one : SpT) (sp_law_bent_words : SpT) (sp_law_wrong_word : SpT) (sx_read_web_x : SpX) (sp_Web_str : SpT) (sp_law_same : SpT) (CBadText : Nat) (CWeb : Nat) (fld : Nat → Option Str) : MS :=
  (sSeq (sAsg (rCallU sp_law_box [] (aCons (rVar 0) aNil)) (gSlot 1))
  (sSeq (sForR1 (aCons (rC (.int 8)) aNil) (gSlot 2)
  (sSeq (sAsg (rCallU sp_law_words [] (aCons (rCallU sp_law_web [] (aCons (rVar 1) (aCons (rC (.int 0)) (aCons (rC (.int 13)) aNil)))) aNil)) (gSlot 4))
  (sSeq (sForR1 (aCons (rCallU sp_law_one [] (aCons (rVar 1) (aCons (rLst (aCons (rC (.int 0)) (aCons (rC (.int 1)) (aCons (rC (.int 1)) (aCons (rC (.int 1)) (aCons (rC (.int 2)) aNil)))))) aNil))) aNil) (gSlot 5)
  (sAsg (rCallU sp_law_bent_words [] (aCons (rVar 1) (aCons (rVar 4) aNil))) (gSlot 4)))
  (sSeq (sAsg (rCallU sp_law_wrong_word [] (aCons (rVar 4) aNil)) (gSlot 6))
  (sSeq (sAsg (rC .non) (gSlot 7))
  (sSeq (sTryF CBadText "at" 8 7
  (sAsgX (rStrX CWeb sp_Web_str (rCallX sx_read_web_x [] (aCons (rVar 4) aNil))) (gSlot 7)))
  (sIf (tsNot (tsV (rCallU sp_law_same [] (aCons (rVar 7) (aCons (rIf (tsV (rOp (fIsN false) (rVar 6) (rC .non))) (rVar 4) (rVar 6)) aNil)))))
  (sRet (rC (.bl false)))
  sNext)))))))
  (sSeq (sSet 3 (rLst (aCons (rLam fld (rCallX sx_read_web_x [] (aCons (rC (.str "")) aNil))) aNil)))
  (sSeq (sMut fAppend (pVar 3) (aCons (rLam fld (rCallX sx_read_web_x [] (aCons (rC (.str "82")) aNil))) aNil))
  (sRet (rOp (fEq false) (rVar 3) (rLst (aCons (rTup (aCons (rC (.str "BadText")) (aCons (rC (.int 0)) aNil))) (aCons (rTup (aCons (rC (.str "BadText")) (aCons (rC (.int 0)) aNil))) aNil)))))))))
theorem sc_is_colour : FnScope N_is_colour ps_is_colour (defScope st_is_colour) := ⟨rfl, rfl, rfl, by decide +kernel, rfl, by decide +kernel, by decide +kernel⟩
theorem d_is_colour (T : Txt K mg CBadArrow CBadMark CBadNumber CBadPoint CBadSize CBadStrike CBadText CTooMany CWeb) {f : Addr} {cdv : Value} {A : Around} {outer : List Env} {s : Shared} {H : Hp} {E : XK} (hr : Room 0 (XC P w K mg base N_is_colour "is_colour" st_is_colour f cdv A outer s H E).A) : PSs (XC P w K mg base N_is_colour "is_colour" st_is_colour f cdv A outer s H E) (defBody st_is_colour) (liftS K NoX (m_is_colour)) := by
  have hu := hu64 hr
  exact (pss_one (ls_ret (ps_ret (lr_and (pe_and (lr_op og_eq (pe_cmpR (op_eqA hu) (lr_ca cg_len (pe_callB ca_len (by rfl) T.z_len bt_len (la_cons (pa_cons (lr_var (pv 0)) (la_nil pa_nil))))) (lr_c pe_int) (nomark _))) (pe_one (lr_op og_inStr (pe_cmpR op_in_str (lr_var (pv 0)) (lr_c (C8.pe_gc (by rfl) T.g_COLOURS)) (by rfl)))))))))
theorem sc_is_mark : FnScope N_is_mark ps_is_mark (defScope st_is_mark) := ⟨rfl, rfl, rfl, by decide +kernel, rfl, by decide +kernel, by decide +kernel⟩
theorem d_is_mark (T : Txt K mg CBadArrow CBadMark CBadNumber CBadPoint CBadSize CBadStrike CBadText CTooMany CWeb) {f : Addr} {cdv : Value} {A : Around} {outer : List Env} {s : Shared} {H : Hp} {E : XK} (hr : Room 0 (XC P w K mg base N_is_mark "is_mark" st_is_mark f cdv A outer s H E).A) : PSs (XC P w K mg base N_is_mark "is_mark" st_is_mark f cdv A outer s H E) (defBody st_is_mark) (liftS K NoX (m_is_mark)) := by
  have hu := hu64 hr
  exact (pss_one (ls_ret (ps_ret (lr_and (pe_and (lr_op og_eq (pe_cmpR (op_eqA hu) (lr_ca cg_len (pe_callB ca_len (by rfl) T.z_len bt_len (la_cons (pa_cons (lr_var (pv 0)) (la_nil pa_nil))))) (lr_c pe_int) (nomark _))) (pe_one (lr_op og_inStr (pe_cmpR op_in_str (lr_var (pv 0)) (lr_c (C8.pe_gc (by rfl) T.g_MARKS)) (by rfl)))))))))
theorem sc_Web_str : FnScope N_Web_str ps_Web_str (defScope st_Web_str) := ⟨rfl, rfl, rfl, by decide +kernel, rfl, by decide +kernel, by decide +kernel⟩
theorem d_Web_str (T : Txt K mg CBadArrow CBadMark CBadNumber CBadPoint CBadSize CBadStrike CBadText CTooMany CWeb) {f : Addr} {cdv : Value} {A : Around} {outer : List Env} {s : Shared} {H : Hp} {E : XK} (hr : Room 0 (XC P w K mg base N_Web_str "Web.__str__" st_Web_str f cdv A outer s H E).A) : PSs (XC P w K mg base N_Web_str "Web.__str__" st_Web_str f cdv A outer s H E) (defBody st_Web_str) (liftS K NoX (m_Web_str CWeb)) := by
  have hu := hu64 hr
  exact (ls_seq (pss_cons (ls_frz (ps_set (i := 1) sc_Web_str.nd rfl (by first | exact Or.inl rfl | exact Or.inr rfl) (lr_op og_add (pe_op op_addA (lr_lst (pe_lst (la_cons (pa_cons (lr_ca cg_str (pe_callTy ca_str (by rfl) T.z_str bt_str (la_cons (pa_cons (lr_fld T.c_Web T.n_Web_many (pe_fld (lr_var (pv 0)) rfl)) (la_nil pa_nil))))) (la_nil pa_nil))))) (lr_compS (ws := [2, 3, 4]) (by decide) (pe_lc (own := [("colour", 2), ("one", 3), ("other", 4)]) rfl sc_Web_str.nd (pi_seqA (lr_fld T.c_Web T.n_Web_arrow_list (pe_fld (lr_var (pv 0)) rfl))) (blkOk_by (N := N_Web_str) (sc := defScope st_Web_str) (by decide +kernel)) (fun _ _ _ _ _ => (lg_tup (pg_tup rfl (lgs_cons (pgs_cons (lg_slot (pg_name (i := 2) sc_Web_str.nd rfl (by first | exact Or.inl rfl | exact Or.inr rfl))) (lgs_cons (pgs_cons (lg_slot (pg_name (i := 3) sc_Web_str.nd rfl (by first | exact Or.inl rfl | exact Or.inr rfl))) (lgs_cons (pgs_cons (lg_slot (pg_name (i := 4) sc_Web_str.nd rfl (by first | exact Or.inl rfl | exact Or.inr rfl))) (lgs_nil pgs_nil)))))))))) (fun _ _ _ _ _ => (ltp_nil pts_nil)) (fun _ _ _ _ _ => (lr_js (lj_cons (lr_fmt (pe_fmt (lr_var (pv 3)))) (lj_cons (lr_fmt (pe_fmt (lr_var (pv 2)))) (lj_cons (lr_fmt (pe_fmt (lr_var (pv 4)))) lj_nil)))))))))))
  (pss_one (ls_ret (ps_ret (lr_join (pe_join (lr_c pe_str) (lr_op og_add (pe_op op_addA (lr_var (pv 1)) (lr_compS (ws := [5, 6]) (by decide) (pe_lc (own := [("mark", 5), ("point", 6)]) rfl sc_Web_str.nd (pi_seqA (lr_fld T.c_Web T.n_Web_mark_list (pe_fld (lr_var (pv 0)) rfl))) (blkOk_by (N := N_Web_str) (sc := defScope st_Web_str) (by decide +kernel)) (fun _ _ _ _ _ => (lg_tup (pg_tup rfl (lgs_cons (pgs_cons (lg_slot (pg_name (i := 5) sc_Web_str.nd rfl (by first | exact Or.inl rfl | exact Or.inr rfl))) (lgs_cons (pgs_cons (lg_slot (pg_name (i := 6) sc_Web_str.nd rfl (by first | exact Or.inl rfl | exact Or.inr rfl))) (lgs_nil pgs_nil)))))))) (fun _ _ _ _ _ => (ltp_nil pts_nil)) (fun _ _ _ _ _ => (lr_js (lj_cons (lr_fmt (pe_fmt (lr_var (pv 5)))) (lj_cons (lr_fmt (pe_fmt (lr_var (pv 6)))) lj_nil)))))))))))))))
theorem sc_number_in : FnScope N_number_in ps_number_in (defScope st_number_in) := ⟨rfl, rfl, rfl, by decide +kernel, rfl, by decide +kernel, by decide +kernel⟩
theorem d_number_in (T : Txt K mg CBadArrow CBadMark CBadNumber CBadPoint CBadSize CBadStrike CBadText CTooMany CWeb) {f : Addr} {cdv : Value} {A : Around} {outer : List Env} {s : Shared} {H : Hp} {E : XK} (hr : Room 0 (XC P w K mg base N_number_in "number_in" st_number_in f cdv A outer s H E).A) : PSs (XC P w K mg base N_number_in "number_in" st_number_in f cdv A outer s H E) (defBody st_number_in) (liftS K NoX (m_number_in)) := by
  have hu := hu64 hr
  exact (ls_seq (pss_cons (ls_if (ps_if (PW.pt (lw_or (pw_or (lt_cmp og_eq (pt_cmpR (op_eqA hu) (lr_var (pv 0)) (lr_c pe_str) (nomark _))) (lw_or (pw_or (lt_cmp og_cmp (pt_cmpR op_gt (lr_ca cg_len (pe_callB ca_len (by rfl) T.z_len bt_len (la_cons (pa_cons (lr_var (pv 0)) (la_nil pa_nil))))) (lr_c pe_int) (nomark _))) (pw_or1 (lt_not (pt_not (lt_val (pt_val (lr_ca (cg_bools _) (pe_callB (cr_all rfl) (by rfl) T.z_all bt_all (la_cons (pa_cons (lr_compX (ws := [1]) (by decide) (pe_lc (own := [("sign", 1)]) rfl sc_number_in.nd (pi_str (lr_var (pv 0))) (blkOk_by (N := N_number_in) (sc := defScope st_number_in) (by decide +kernel)) (fun _ _ _ _ _ => (lg_slot (pg_name (i := 1) sc_number_in.nd rfl (by first | exact Or.inl rfl | exact Or.inr rfl)))) (fun _ _ _ _ _ => (ltp_nil pts_nil)) (fun _ _ _ _ _ => (lr_op og_inStr (pe_cmpR op_in_str (lr_var (pv 1)) (lr_c (C8.pe_gc (by rfl) T.g_FIGURES)) (by rfl)))))) (la_nil pa_nil)))))))))))))))
  (pss_one (ls_ret (ps_ret (lr_c pe_non))))
  (ls_next pss_nil)))
  (pss_one (ls_ret (ps_ret (lr_if (pe_ifExp (PW.pt (lw_and (pw_and (lt_cmp og_ne (pt_cmpR (op_neA hu) (lr_var (pv 0)) (lr_c pe_str) (nomark _))) (pw_and1 (lt_cmp og_eq (pt_cmpR (op_eqA hu) (lr_ix (pe_ix ix_seq (lr_var (pv 0)) (lr_c pe_int) (fun _ _ => rfl))) (lr_c pe_str) (nomark _))))))) (lr_c pe_non) (lr_ca cg_intS (pe_callTy ca_intS (by rfl) T.z_int bt_int (la_cons (pa_cons (lr_var (pv 0)) (la_nil pa_nil))))))))))))
theorem sc_law_box : FnScope N_law_box ps_law_box (defScope st_law_box) := ⟨rfl, rfl, rfl, by decide +kernel, rfl, by decide +kernel, by decide +kernel⟩
theorem d_law_box (T : Txt K mg CBadArrow CBadMark CBadNumber CBadPoint CBadSize CBadStrike CBadText CTooMany CWeb) {f : Addr} {cdv : Value} {A : Around} {outer : List Env} {s : Shared} {H : Hp} {E : XK} (hr : Room 0 (XC P w K mg base N_law_box "_law_box" st_law_box f cdv A outer s H E).A) : PSs (XC P w K mg base N_law_box "_law_box" st_law_box f cdv A outer s H E) (defBody st_law_box) (liftS K NoX (m_law_box)) := by
  have hu := hu64 hr
  exact (ls_seq (pss_cons (ls_set (ps_set (i := 1) sc_law_box.nd rfl (by first | exact Or.inl rfl | exact Or.inr rfl) (lr_op og_add (pe_op op_addA (lr_c pe_int) (lr_op og_I (pe_op op_mulI (lr_c pe_int) (lr_ca cg_len (pe_callB ca_len (by rfl) T.z_len bt_len (la_cons (pa_cons (lr_sl (pe_slice sl_all (lr_var (pv 0)) lo_none (lo_some (lr_c pe_int)))) (la_nil pa_nil)))))))))))
  (ls_seq (pss_cons (ls_forS (ws := [2]) (ps_for PassesOwn.never rfl (pi_seqA (lr_sl (pe_slice sl_all (lr_var (pv 0)) lo_none (lo_some (lr_c pe_int))))) (lg_slot (pg_name (i := 2) sc_law_box.nd rfl (by first | exact Or.inl rfl | exact Or.inr rfl)))
  (pss_one (ls_set (ps_set (i := 1) sc_law_box.nd rfl (by first | exact Or.inl rfl | exact Or.inr rfl) (lr_op og_I (pe_op op_mod (lr_op og_add (pe_op op_addA (lr_op og_add (pe_op op_addA (lr_op og_I (pe_op op_mulI (lr_var (pv 1)) (lr_c pe_int))) (lr_op og_I (pe_op op_mod (lr_var (pv 2)) (lr_c pe_int))))) (lr_c pe_int))) (lr_c pe_int))))))))
  (pss_one (ls_ret (ps_ret (lr_lst (pe_lst (la_cons (pa_cons (lr_ca cg_list (pe_callTy call_list_of (by rfl) T.z_list bt_list (la_cons (pa_cons (lr_sl (pe_slice sl_all (lr_var (pv 0)) lo_none (lo_some (lr_c pe_int)))) (la_nil pa_nil))))) (la_cons (pa_cons (lr_c pe_int) (la_cons (pa_cons (lr_c pe_int) (la_cons (pa_cons (lr_var (pv 1)) (la_nil pa_nil))))))))))))))))))
theorem sc_law_take : FnScope N_law_take ps_law_take (defScope st_law_take) := ⟨rfl, rfl, rfl, by decide +kernel, rfl, by decide +kernel, by decide +kernel⟩
theorem d_law_take (T : Txt K mg CBadArrow CBadMark CBadNumber CBadPoint CBadSize CBadStrike CBadText CTooMany CWeb) {f : Addr} {cdv : Value} {A : Around} {outer : List Env} {s : Shared} {H : Hp} {E : XK} (hr : Room 0 (XC P w K mg base N_law_take "_law_take" st_law_take f cdv A outer s H E).A) : PSs (XC P w K mg base N_law_take "_law_take" st_law_take f cdv A outer s H E) (defBody st_law_take) (liftS K NoX (m_law_take)) := by
  have hu := hu64 hr
  exact (ls_seq (pss_cons (ls_if (ps_if (PW.pt (lw_and (pw_and (lt_cmp og_eq (pt_cmpR (op_eqA hu) (lr_ix (pe_ix ix_seq (lr_var (pv 0)) (lr_c pe_int) (fun _ _ => rfl))) (lr_c pe_int) (nomark _))) (pw_and1 (lt_cmp og_cmp (pt_cmpR op_lt (lr_ix (pe_ix ix_seq (lr_var (pv 0)) (lr_c pe_int) (fun _ _ => rfl))) (lr_ca cg_len (pe_callB ca_len (by rfl) T.z_len bt_len (la_cons (pa_cons (lr_ix (pe_ix ix_seq (lr_var (pv 0)) (lr_c pe_int) (fun _ _ => rfl))) (la_nil pa_nil))))) (nomark _)))))))
  (ls_seq (pss_cons (ls_set (ps_set (i := 3) sc_law_take.nd rfl (by first | exact Or.inl rfl | exact Or.inr rfl) (lr_ix (pe_ix ix_seq (lr_ix (pe_ix ix_seq (lr_var (pv 0)) (lr_c pe_int) (fun _ _ => rfl))) (lr_ix (pe_ix ix_seq (lr_var (pv 0)) (lr_c pe_int) (fun _ _ => rfl))) (fun _ _ => rfl)))))
  (ls_seq (pss_cons (ls_ix (ps_asg (lr_op og_add (pe_op op_addA (lr_ix (pe_ix ix_seq (lr_var (pv 0)) (lr_c pe_int) (fun _ _ => rfl))) (lr_c pe_int))) (pg_sub (lp_var (pv 0)) (lr_c pe_int) set_list)))
  (pss_one (ls_if (ps_if (lt_cmp og_cmp (pt_cmpR op_ge (lr_var (pv 3)) (lr_op og_I (pe_op op_pow (lr_c pe_int) (lr_c pe_int))) (nomark _)))
  (pss_one (ls_ix (ps_asg (lr_var (pv 3)) (pg_sub (lp_var (pv 0)) (lr_c pe_int) set_list))))
  (pss_one (ls_ix (ps_asg (lr_op og_I (pe_op op_mod (lr_op og_add (pe_op op_addA (lr_op og_add (pe_op op_addA (lr_op og_I (pe_op op_mulI (lr_ix (pe_ix ix_seq (lr_var (pv 0)) (lr_c pe_int) (fun _ _ => rfl))) (lr_c pe_int))) (lr_op og_I (pe_op op_mulI (lr_op og_I (pe_op op_mod (lr_var (pv 3)) (lr_c pe_int))) (lr_c pe_int))))) (lr_ix (pe_ix ix_seq (lr_var (pv 0)) (lr_c pe_int) (fun _ _ => rfl))))) (lr_c pe_int))) (pg_sub (lp_var (pv 0)) (lr_c pe_int) set_list)))))))))))
  (ls_next pss_nil)))
  (ls_seq (pss_cons (ls_if (ps_if (lt_cmp og_cmp (pt_cmpR op_gt (lr_ix (pe_ix ix_seq (lr_var (pv 0)) (lr_c pe_int) (fun _ _ => rfl))) (lr_c pe_int) (nomark _)))
  (ls_seq (pss_cons (ls_set (ps_set (i := 4) sc_law_take.nd rfl (by first | exact Or.inl rfl | exact Or.inr rfl) (lr_op og_I (pe_op op_mod (lr_ix (pe_ix ix_seq (lr_var (pv 0)) (lr_c pe_int) (fun _ _ => rfl))) (lr_var (pv 1))))))
  (ls_seq (pss_cons (ls_ix (ps_asg (lr_op og_I (pe_op op_divI (lr_ix (pe_ix ix_seq (lr_var (pv 0)) (lr_c pe_int) (fun _ _ => rfl))) (lr_var (pv 1)))) (pg_sub (lp_var (pv 0)) (lr_c pe_int) set_list)))
  (pss_one (ls_retV (ps_ret (pv 4))))))))
  (ls_next pss_nil)))
  (ls_seq (pss_cons (ls_set (ps_set (i := 2) sc_law_take.nd rfl (by first | exact Or.inl rfl | exact Or.inr rfl) (lr_ix (pe_ix ix_seq (lr_var (pv 0)) (lr_c pe_int) (fun _ _ => rfl)))))
  (ls_seq (pss_cons (ls_ix (ps_asg (lr_op og_I (pe_op op_mod (lr_op og_add (pe_op op_addA (lr_op og_add (pe_op op_addA (lr_op og_I (pe_op op_mulI (lr_var (pv 2)) (lr_var (pv 2)))) (lr_op og_I (pe_op op_mulI (lr_var (pv 2)) (lr_c pe_int))))) (lr_c pe_int))) (lr_c pe_int))) (pg_sub (lp_var (pv 0)) (lr_c pe_int) set_list)))
  (pss_one (ls_ret (ps_ret (lr_op og_I (pe_op op_mod (lr_op og_add (pe_op op_addA (lr_op og_I (pe_op op_divI (lr_ix (pe_ix ix_seq (lr_var (pv 0)) (lr_c pe_int) (fun _ _ => rfl))) (lr_c pe_int))) (lr_op og_I (pe_op op_mulI (lr_op og_I (pe_op op_mod (lr_ix (pe_ix ix_seq (lr_var (pv 0)) (lr_c pe_int) (fun _ _ => rfl))) (lr_c pe_int))) (lr_c pe_int))))) (lr_var (pv 1)))))))))))))))
theorem sc_law_unlike : FnScope N_law_unlike ps_law_unlike (defScope st_law_unlike) := ⟨rfl, rfl, rfl, by decide +kernel, rfl, by decide +kernel, by decide +kernel⟩
theorem d_law_unlike (T : Txt K mg CBadArrow CBadMark CBadNumber CBadPoint CBadSize CBadStrike CBadText CTooMany CWeb) {f : Addr} {cdv : Value} {A : Around} {outer : List Env} {s : Shared} {H : Hp} {E : XK} (hr : Room 0 (XC P w K mg base N_law_unlike "_law_unlike" st_law_unlike f cdv A outer s H E).A) : PSs (XC P w K mg base N_law_unlike "_law_unlike" st_law_unlike f cdv A outer s H E) (defBody st_law_unlike) (liftS K NoX (m_law_unlike)) := by
  have hu := hu64 hr
  exact (ls_seq (pss_cons (ls_set (ps_set (i := 1) sc_law_unlike.nd rfl (by first | exact Or.inl rfl | exact Or.inr rfl) (lr_lst (pe_lst (la_nil pa_nil)))))
  (ls_seq (pss_cons (ls_forS (ws := [2]) (ps_for PassesOwn.never rfl (pi_seqA (lr_ca cg_sorted (pe_callB cr_sortedTG (by rfl) T.z_sorted bt_sorted (la_cons (pa_cons (lr_var (pv 0)) (la_nil pa_nil)))))) (lg_slot (pg_name (i := 2) sc_law_unlike.nd rfl (by first | exact Or.inl rfl | exact Or.inr rfl)))
  (pss_one (ls_if (ps_if (PW.pt (lw_or (pw_or (lt_cmp og_eq (pt_cmpR (op_eqA hu) (lr_var (pv 1)) (lr_lst (pe_lst (la_nil pa_nil))) (nomark _))) (pw_or1 (lt_cmp og_ne (pt_cmpR (op_neA hu) (lr_ix (pe_ix ix_seq (lr_var (pv 1)) (lr_neg (pe_un un_neg pe_int)) (fun _ _ => rfl))) (lr_var (pv 2)) (nomark _)))))))
  (pss_one (ls_mut mu_append (ps_expr (pe_bm PySem.F.plainAttrs_list PySem.F.slot_list_append PySem.F.type_list_append mt_append (lp_var (pv 1)) (la_cons (pa_cons (lr_var (pv 2)) (la_nil pa_nil)))))))
  (ls_next pss_nil))))))
  (pss_one (ls_retV (ps_ret (pv 1))))))))
theorem sc_law_words : FnScope N_law_words ps_law_words (defScope st_law_words) := ⟨rfl, rfl, rfl, by decide +kernel, rfl, by decide +kernel, by decide +kernel⟩
theorem d_law_words (T : Txt K mg CBadArrow CBadMark CBadNumber CBadPoint CBadSize CBadStrike CBadText CTooMany CWeb) {f : Addr} {cdv : Value} {A : Around} {outer : List Env} {s : Shared} {H : Hp} {E : XK} (hr : Room 0 (XC P w K mg base N_law_words "_law_words" st_law_words f cdv A outer s H E).A) : PSs (XC P w K mg base N_law_words "_law_words" st_law_words f cdv A outer s H E) (defBody st_law_words) (liftS K NoX (m_law_words)) := by
  have hu := hu64 hr
  exact (ls_seq (pss_cons (ls_frz (ps_set (i := 1) sc_law_words.nd rfl (by first | exact Or.inl rfl | exact Or.inr rfl) (lr_op og_add (pe_op op_addA (lr_lst (pe_lst (la_cons (pa_cons (lr_ca cg_str (pe_callTy ca_str (by rfl) T.z_str bt_str (la_cons (pa_cons (lr_ix (pe_ix ix_seq (lr_var (pv 0)) (lr_c pe_int) (fun _ _ => rfl))) (la_nil pa_nil))))) (la_nil pa_nil))))) (lr_compS (ws := [2, 3, 4]) (by decide) (pe_lc (own := [("_law_hue_here", 2), ("_law_one_here", 3), ("_law_other", 4)]) rfl sc_law_words.nd (pi_seqA (lr_ix (pe_ix ix_seq (lr_var (pv 0)) (lr_c pe_int) (fun _ _ => rfl)))) (blkOk_by (N := N_law_words) (sc := defScope st_law_words) (by decide +kernel)) (fun _ _ _ _ _ => (lg_tup (pg_tup rfl (lgs_cons (pgs_cons (lg_slot (pg_name (i := 2) sc_law_words.nd rfl (by first | exact Or.inl rfl | exact Or.inr rfl))) (lgs_cons (pgs_cons (lg_slot (pg_name (i := 3) sc_law_words.nd rfl (by first | exact Or.inl rfl | exact Or.inr rfl))) (lgs_cons (pgs_cons (lg_slot (pg_name (i := 4) sc_law_words.nd rfl (by first | exact Or.inl rfl | exact Or.inr rfl))) (lgs_nil pgs_nil)))))))))) (fun _ _ _ _ _ => (ltp_nil pts_nil)) (fun _ _ _ _ _ => (lr_op og_add (pe_op op_addA (lr_op og_add (pe_op op_addA (lr_ca cg_str (pe_callTy ca_str (by rfl) T.z_str bt_str (la_cons (pa_cons (lr_var (pv 3)) (la_nil pa_nil))))) (lr_var (pv 2)))) (lr_ca cg_str (pe_callTy ca_str (by rfl) T.z_str bt_str (la_cons (pa_cons (lr_var (pv 4)) (la_nil pa_nil))))))))))))))
  (pss_one (ls_ret (ps_ret (lr_join (pe_join (lr_c pe_str) (lr_op og_add (pe_op op_addA (lr_var (pv 1)) (lr_compS (ws := [5, 6]) (by decide) (pe_lc (own := [("_law_sign_here", 5), ("_law_point", 6)]) rfl sc_law_words.nd (pi_seqA (lr_ix (pe_ix ix_seq (lr_var (pv 0)) (lr_c pe_int) (fun _ _ => rfl)))) (blkOk_by (N := N_law_words) (sc := defScope st_law_words) (by decide +kernel)) (fun _ _ _ _ _ => (lg_tup (pg_tup rfl (lgs_cons (pgs_cons (lg_slot (pg_name (i := 5) sc_law_words.nd rfl (by first | exact Or.inl rfl | exact Or.inr rfl))) (lgs_cons (pgs_cons (lg_slot (pg_name (i := 6) sc_law_words.nd rfl (by first | exact Or.inl rfl | exact Or.inr rfl))) (lgs_nil pgs_nil)))))))) (fun _ _ _ _ _ => (ltp_nil pts_nil)) (fun _ _ _ _ _ => (lr_op og_add (pe_op op_addA (lr_var (pv 5)) (lr_ca cg_str (pe_callTy ca_str (by rfl) T.z_str bt_str (la_cons (pa_cons (lr_var (pv 6)) (la_nil pa_nil)))))))))))))))))))
theorem sc_law_number_in : FnScope N_law_number_in ps_law_number_in (defScope st_law_number_in) := ⟨rfl, rfl, rfl, by decide +kernel, rfl, by decide +kernel, by decide +kernel⟩
theorem d_law_number_in (T : Txt K mg CBadArrow CBadMark CBadNumber CBadPoint CBadSize CBadStrike CBadText CTooMany CWeb) {f : Addr} {cdv : Value} {A : Around} {outer : List Env} {s : Shared} {H : Hp} {E : XK} (hr : Room 0 (XC P w K mg base N_law_number_in "_law_number_in" st_law_number_in f cdv A outer s H E).A) : PSs (XC P w K mg base N_law_number_in "_law_number_in" st_law_number_in f cdv A outer s H E) (defBody st_law_number_in) (liftS K NoX (m_law_number_in)) := by
  have hu := hu64 hr
  exact (ls_seq (pss_cons (ls_if (ps_if (PW.pt (lw_or (pw_or (lt_not (pt_not (lt_chain og_cmp og_cmp (pt_chain op_le op_le (lr_c pe_int) (lr_ca cg_len (pe_callB ca_len (by rfl) T.z_len bt_len (la_cons (pa_cons (lr_var (pv 0)) (la_nil pa_nil))))) (lr_c pe_int))))) (pw_or1 (lt_not (pt_not (lt_val (pt_val (lr_ca (cg_bools _) (pe_callB (cr_all rfl) (by rfl) T.z_all bt_all (la_cons (pa_cons (lr_compX (ws := [1]) (by decide) (pe_lc (own := [("_law_sign_here", 1)]) rfl sc_law_number_in.nd (pi_str (lr_var (pv 0))) (blkOk_by (N := N_law_number_in) (sc := defScope st_law_number_in) (by decide +kernel)) (fun _ _ _ _ _ => (lg_slot (pg_name (i := 1) sc_law_number_in.nd rfl (by first | exact Or.inl rfl | exact Or.inr rfl)))) (fun _ _ _ _ _ => (ltp_nil pts_nil)) (fun _ _ _ _ _ => (lr_op og_inStr (pe_cmpR op_in_str (lr_var (pv 1)) (lr_c pe_str) (by rfl)))))) (la_nil pa_nil)))))))))))))
  (pss_one (ls_ret (ps_ret (lr_c pe_int))))
  (ls_next pss_nil)))
  (pss_one (ls_ret (ps_ret (lr_if (pe_ifExp (PW.pt (lw_and (pw_and (lt_cmp og_eq (pt_cmpR (op_eqA hu) (lr_ca cg_len (pe_callB ca_len (by rfl) T.z_len bt_len (la_cons (pa_cons (lr_var (pv 0)) (la_nil pa_nil))))) (lr_c pe_int) (nomark _))) (pw_and1 (lt_cmp og_eq (pt_cmpR (op_eqA hu) (lr_ix (pe_ix ix_seq (lr_var (pv 0)) (lr_c pe_int) (fun _ _ => rfl))) (lr_c pe_str) (nomark _))))))) (lr_c pe_int) (lr_ca cg_intS (pe_callTy ca_intS (by rfl) T.z_int bt_int (la_cons (pa_cons (lr_var (pv 0)) (la_nil pa_nil))))))))))))
theorem sc_Web_init : FnScope N_Web_init ps_Web_init (defScope st_Web_init) := ⟨rfl, rfl, rfl, by decide +kernel, rfl, by decide +kernel, by decide +kernel⟩
theorem d_Web_init (T : Txt K mg CBadArrow CBadMark CBadNumber CBadPoint CBadSize CBadStrike CBadText CTooMany CWeb) {f_is_colour : Addr} {fd_is_colour : FuncData} {sp_is_colour : SpT} (g_is_colour : Gd K mg "is_colour" st_is_colour ps_is_colour f_is_colour fd_is_colour) (G_is_colour : FnOk P w K mg base CX0 1 f_is_colour fd_is_colour ps_is_colour (spOf K sp_is_colour)) {f_is_mark : Addr} {fd_is_mark : FuncData} {sp_is_mark : SpT} (g_is_mark : Gd K mg "is_mark" st_is_mark ps_is_mark f_is_mark fd_is_mark) (G_is_mark : FnOk P w K mg base CX0 1 f_is_mark fd_is_mark ps_is_mark (spOf K sp_is_mark)) {f : Addr} {cdv : Value} {A : Around} {outer : List Env} {s : Shared} {H : Hp} {E : XK} (hr : Room 1 (XC P w K mg base N_Web_init "Web.__init__" st_Web_init f cdv A outer s H E).A) : PSs (XC P w K mg base N_Web_init "Web.__init__" st_Web_init f cdv A outer s H E) (defBody st_Web_init) (liftS K NoX (m_Web_init sp_is_colour sp_is_mark CWeb)) := by
  have hu := hu64 hr
  exact (ls_seq (pss_cons (ls_if (ps_if (lt_not (pt_not (lt_chain og_cmp og_cmp (pt_chain op_le op_le (lr_c pe_int) (lr_var (pv 1)) (lr_c (C8.pe_gc (by rfl) T.g_MOST_POINTS))))))
  (pss_one (ls_never ps_never))
  (ls_next pss_nil)))
  (ls_seq (pss_cons (ls_forE (ws := [4, 5, 6, 7]) (ps_for PassesOwn.never rfl (pi_enumA (by rfl) T.z_enumerate (la_cons (pa_cons (lr_var (pv 2)) (la_nil pa_nil)))) (lg_tup (pg_tup rfl (lgs_cons (pgs_cons (lg_slot (pg_name (i := 4) sc_Web_init.nd rfl (by first | exact Or.inl rfl | exact Or.inr rfl))) (lgs_cons (pgs_cons (lg_tup (pg_tup rfl (lgs_cons (pgs_cons (lg_slot (pg_name (i := 5) sc_Web_init.nd rfl (by first | exact Or.inl rfl | exact Or.inr rfl))) (lgs_cons (pgs_cons (lg_slot (pg_name (i := 6) sc_Web_init.nd rfl (by first | exact Or.inl rfl | exact Or.inr rfl))) (lgs_cons (pgs_cons (lg_slot (pg_name (i := 7) sc_Web_init.nd rfl (by first | exact Or.inl rfl | exact Or.inr rfl))) (lgs_nil pgs_nil))))))))) (lgs_nil pgs_nil)))))))
  (pss_one (ls_if (ps_if (PW.pt (lw_or (pw_or (lt_not (pt_not (lt_val (pt_val (lr_call (dts := []) (fun _ => rfl) (pe_call G_is_colour (hr.mono (by omega)) (by rfl) g_is_colour.gl g_is_colour.fn.kp g_is_colour.bd .nil pass0 (la_cons (pa_cons (lr_var (pv 5)) (la_nil pa_nil))))))))) (lw_or (pw_or (lt_not (pt_not (lt_chain og_cmp og_cmp (pt_chain op_le op_lt (lr_c pe_int) (lr_var (pv 6)) (lr_var (pv 1)))))) (pw_or1 (lt_not (pt_not (lt_chain og_cmp og_cmp (pt_chain op_le op_lt (lr_c pe_int) (lr_var (pv 7)) (lr_var (pv 1))))))))))))
  (pss_one (ls_never ps_never))
  (ls_next pss_nil))))))
  (ls_seq (pss_cons (ls_forE (ws := [4, 8, 9]) (ps_for PassesOwn.never rfl (pi_enumA (by rfl) T.z_enumerate (la_cons (pa_cons (lr_var (pv 3)) (la_nil pa_nil)))) (lg_tup (pg_tup rfl (lgs_cons (pgs_cons (lg_slot (pg_name (i := 4) sc_Web_init.nd rfl (by first | exact Or.inl rfl | exact Or.inr rfl))) (lgs_cons (pgs_cons (lg_tup (pg_tup rfl (lgs_cons (pgs_cons (lg_slot (pg_name (i := 8) sc_Web_init.nd rfl (by first | exact Or.inl rfl | exact Or.inr rfl))) (lgs_cons (pgs_cons (lg_slot (pg_name (i := 9) sc_Web_init.nd rfl (by first | exact Or.inl rfl | exact Or.inr rfl))) (lgs_nil pgs_nil))))))) (lgs_nil pgs_nil)))))))
  (pss_one (ls_if (ps_if (PW.pt (lw_or (pw_or (lt_not (pt_not (lt_val (pt_val (lr_call (dts := []) (fun _ => rfl) (pe_call G_is_mark (hr.mono (by omega)) (by rfl) g_is_mark.gl g_is_mark.fn.kp g_is_mark.bd .nil pass0 (la_cons (pa_cons (lr_var (pv 8)) (la_nil pa_nil))))))))) (pw_or1 (lt_not (pt_not (lt_chain og_cmp og_cmp (pt_chain op_le op_lt (lr_c pe_int) (lr_var (pv 9)) (lr_var (pv 1))))))))))
  (pss_one (ls_never ps_never))
  (ls_next pss_nil))))))
  (ls_seq (pss_cons (ls_fld T.c_Web T.n_Web_many (ps_fld (lp_var (pv 0)) (lr_var (pv 1)) rfl))
  (ls_seq (pss_cons (ls_fld T.c_Web T.n_Web_spots_there (ps_fld (lp_var (pv 0)) (lr_lstR1 (pe_listRg rfl (by rfl) T.z_list (prg_1 (by rfl) T.z_range (lr_var (pv 1))))) rfl))
  (ls_seq (pss_cons (ls_fld T.c_Web T.n_Web_arrow_list (ps_fld (lp_var (pv 0)) (lr_pinned (lr_sortSet (ws := [5, 6, 7]) (by decide) (pe_callB (cr_sortedST rfl) (by rfl) T.z_sorted bt_sorted (pa_cons (pe_scT (own := [("colour", 5), ("one", 6), ("other", 7)]) rfl hu sc_Web_init.nd (pi_seqA (lr_var (pv 2))) (blkOk_by (N := N_Web_init) (sc := defScope st_Web_init) (by decide +kernel)) (fun _ _ _ _ _ => (lg_tup (pg_tup rfl (lgs_cons (pgs_cons (lg_slot (pg_name (i := 5) sc_Web_init.nd rfl (by first | exact Or.inl rfl | exact Or.inr rfl))) (lgs_cons (pgs_cons (lg_slot (pg_name (i := 6) sc_Web_init.nd rfl (by first | exact Or.inl rfl | exact Or.inr rfl))) (lgs_cons (pgs_cons (lg_slot (pg_name (i := 7) sc_Web_init.nd rfl (by first | exact Or.inl rfl | exact Or.inr rfl))) (lgs_nil pgs_nil)))))))))) (fun _ _ _ _ _ => (ltp_nil pts_nil)) (fun _ _ _ _ _ => (lr_tup (pe_tup (la_cons (pa_cons (lr_var (pv 5)) (la_cons (pa_cons (lr_var (pv 6)) (la_cons (pa_cons (lr_var (pv 7)) (la_nil pa_nil))))))))))) pa_nil)))) rfl))
  (ls_seq (pss_cons (ls_fld T.c_Web T.n_Web_mark_list (ps_fld (lp_var (pv 0)) (lr_sortSet (ws := [8, 9]) (by decide) (pe_callB (cr_sortedST rfl) (by rfl) T.z_sorted bt_sorted (pa_cons (pe_scT (own := [("mark", 8), ("point", 9)]) rfl hu sc_Web_init.nd (pi_seqA (lr_var (pv 3))) (blkOk_by (N := N_Web_init) (sc := defScope st_Web_init) (by decide +kernel)) (fun _ _ _ _ _ => (lg_tup (pg_tup rfl (lgs_cons (pgs_cons (lg_slot (pg_name (i := 8) sc_Web_init.nd rfl (by first | exact Or.inl rfl | exact Or.inr rfl))) (lgs_cons (pgs_cons (lg_slot (pg_name (i := 9) sc_Web_init.nd rfl (by first | exact Or.inl rfl | exact Or.inr rfl))) (lgs_nil pgs_nil)))))))) (fun _ _ _ _ _ => (ltp_nil pts_nil)) (fun _ _ _ _ _ => (lr_tup (pe_tup (la_cons (pa_cons (lr_var (pv 8)) (la_cons (pa_cons (lr_var (pv 9)) (la_nil pa_nil))))))))) pa_nil))) rfl))
  (ls_seq (pss_cons (ls_fld T.c_Web T.n_Web_onward (ps_fld (lp_var (pv 0)) (lr_dnewT pe_dnewT) rfl))
  (ls_seq (pss_cons (ls_fld T.c_Web T.n_Web_backward (ps_fld (lp_var (pv 0)) (lr_dnewT pe_dnewT) rfl))
  (pss_one (ls_forP (ws := [5, 6, 7]) T.c_Web T.n_Web_arrow_list (ps_for PassesOwn.never rfl (pi_seqA (pe_fld (pv 0) rfl)) (lg_tup (pg_tup rfl (lgs_cons (pgs_cons (lg_slot (pg_name (i := 5) sc_Web_init.nd rfl (by first | exact Or.inl rfl | exact Or.inr rfl))) (lgs_cons (pgs_cons (lg_slot (pg_name (i := 6) sc_Web_init.nd rfl (by first | exact Or.inl rfl | exact Or.inr rfl))) (lgs_cons (pgs_cons (lg_slot (pg_name (i := 7) sc_Web_init.nd rfl (by first | exact Or.inl rfl | exact Or.inr rfl))) (lgs_nil pgs_nil)))))))))
  (ls_seq (pss_cons (ls_setd (ps_expr (pe_bm PySem.F.plainAttrs_list PySem.F.slot_list_append PySem.F.type_list_append mt_append (pe_dsetdT hu (lp_fld T.c_Web T.n_Web_onward (pe_fld (lp_var (pv 0)) rfl)) (pe_tup (la_cons (pa_cons (lr_var (pv 5)) (la_cons (pa_cons (lr_var (pv 6)) (la_nil pa_nil)))))) (pe_lst pa_nil) ⟨rfl, rfl, rfl, rfl⟩) (la_cons (pa_cons (lr_var (pv 7)) (la_nil pa_nil))))))
  (pss_one (ls_setd (ps_expr (pe_bm PySem.F.plainAttrs_list PySem.F.slot_list_append PySem.F.type_list_append mt_append (pe_dsetdT hu (lp_fld T.c_Web T.n_Web_backward (pe_fld (lp_var (pv 0)) rfl)) (pe_tup (la_cons (pa_cons (lr_var (pv 5)) (la_cons (pa_cons (lr_var (pv 7)) (la_nil pa_nil)))))) (pe_lst pa_nil) ⟨rfl, rfl, rfl, rfl⟩) (la_cons (pa_cons (lr_var (pv 6)) (la_nil pa_nil))))))))))))))))))))))))))))))
theorem sc_tie_in : FnScope N_tie_in ps_tie_in (defScope st_tie_in) := ⟨rfl, rfl, rfl, by decide +kernel, rfl, by decide +kernel, by decide +kernel⟩
theorem d_tie_in (T : Txt K mg CBadArrow CBadMark CBadNumber CBadPoint CBadSize CBadStrike CBadText CTooMany CWeb) {f_number_in : Addr} {fd_number_in : FuncData} {sp_number_in : SpT} (g_number_in : Gd K mg "number_in" st_number_in ps_number_in f_number_in fd_number_in) (G_number_in : FnOk P w K mg base CX0 1 f_number_in fd_number_in ps_number_in (spOf K sp_number_in)) {f_is_colour : Addr} {fd_is_colour : FuncData} {sp_is_colour : SpT} (g_is_colour : Gd K mg "is_colour" st_is_colour ps_is_colour f_is_colour fd_is_colour) (G_is_colour : FnOk P w K mg base CX0 1 f_is_colour fd_is_colour ps_is_colour (spOf K sp_is_colour)) {f : Addr} {cdv : Value} {A : Around} {outer : List Env} {s : Shared} {H : Hp} {E : XK} (hr : Room 1 (XC P w K mg base N_tie_in "tie_in" st_tie_in f cdv A outer s H E).A) : PSs (XC P w K mg base N_tie_in "tie_in" st_tie_in f cdv A outer s H E) (defBody st_tie_in) (liftS K NoX (m_tie_in sp_number_in sp_is_colour)) := by
  have hu := hu64 hr
  exact (ls_seq (pss_cons (ls_if (ps_if (lt_cmp (og_inSeq false) (pt_cmpR op_in_seq (lr_sl (pe_slice sl_all (lr_var (pv 0)) lo_none (lo_some (lr_c pe_int)))) (lr_tup (pe_tup (la_cons (pa_cons (lr_c pe_str) (la_cons (pa_cons (lr_c pe_str) (la_cons (pa_cons (lr_c pe_str) (la_nil pa_nil))))))))) (by rfl)))
  (ls_seq (pss_cons (ls_frz (ps_set (i := 3) sc_tie_in.nd rfl (by first | exact Or.inl rfl | exact Or.inr rfl) (lr_callU (dts := []) (fun _ => rfl) (pe_call G_number_in (hr.mono (by omega)) (by rfl) g_number_in.gl g_number_in.fn.kp g_number_in.bd .nil pass0 (la_cons (pa_cons (lr_sl (pe_slice sl_all (lr_var (pv 0)) (lo_some (lr_c pe_int)) lo_none)) (la_nil pa_nil)))))))
  (pss_one (ls_ret (ps_ret (lr_if (pe_ifExp (PW.pt (lw_or (pw_or (lt_cmp og_isN (pt_cmpR op_isN (lr_var (pv 3)) (lr_c pe_non) (nomark _))) (pw_or1 (lt_cmp og_cmp (pt_cmpR op_ge (lr_var (pv 3)) (lr_var (pv 1)) (nomark _))))))) (lr_c pe_non) (lr_tup (pe_tup (la_cons (pa_cons (lr_c pe_int) (la_cons (pa_cons (lr_ix (pe_ix ix_seq (lr_var (pv 0)) (lr_c pe_int) (fun _ _ => rfl))) (la_cons (pa_cons (lr_var (pv 3)) (la_nil pa_nil))))))))))))))))
  (ls_next pss_nil)))
  (ls_seq (pss_cons (ls_forR2 (ws := [2]) (ps_for PassesOwn.never rfl (pi_range2 (by rfl) T.z_range (la_cons (pa_cons (lr_c pe_int) (la_cons (pa_cons (lr_ca cg_min2 (pe_callB (call_min2 rfl) (by rfl) T.z_min bt_min (la_cons (pa_cons (lr_c pe_int) (la_cons (pa_cons (lr_op og_I0 (pe_op op_sub (lr_ca cg_len (pe_callB ca_len (by rfl) T.z_len bt_len (la_cons (pa_cons (lr_var (pv 0)) (la_nil pa_nil))))) (lr_c pe_int))) (la_nil pa_nil))))))) (la_nil pa_nil)))))) (lg_slot (pg_name (i := 2) sc_tie_in.nd rfl (by first | exact Or.inl rfl | exact Or.inr rfl)))
  (pss_one (ls_if (ps_if (lt_val (pt_val (lr_callU (dts := []) (fun _ => rfl) (pe_call G_is_colour (hr.mono (by omega)) (by rfl) g_is_colour.gl g_is_colour.fn.kp g_is_colour.bd .nil pass0 (la_cons (pa_cons (lr_ix (pe_ix ix_seq (lr_var (pv 0)) (lr_var (pv 2)) (fun _ _ => rfl))) (la_nil pa_nil)))))))
  (ls_seq (pss_cons (ls_par (ps_par (i := 4) (j := 5) rfl sc_tie_in.nd rfl rfl (by decide) rfl rfl (la_cons (pa_cons (lr_callU (dts := []) (fun _ => rfl) (pe_call G_number_in (hr.mono (by omega)) (by rfl) g_number_in.gl g_number_in.fn.kp g_number_in.bd .nil pass0 (la_cons (pa_cons (lr_sl (pe_slice sl_all (lr_var (pv 0)) lo_none (lo_some (lr_var (pv 2))))) (la_nil pa_nil))))) (la_cons (pa_cons (lr_callU (dts := []) (fun _ => rfl) (pe_call G_number_in (hr.mono (by omega)) (by rfl) g_number_in.gl g_number_in.fn.kp g_number_in.bd .nil pass0 (la_cons (pa_cons (lr_sl (pe_slice sl_all (lr_var (pv 0)) (lo_some (lr_op og_add (pe_op op_addA (lr_var (pv 2)) (lr_c pe_int)))) lo_none)) (la_nil pa_nil))))) (la_nil pa_nil))))) rfl))
  (pss_one (ls_if (ps_if (PW.pt (lw_and (pw_and (lt_cmp og_notN (pt_cmpR op_notN (lr_var (pv 4)) (lr_c pe_non) (nomark _))) (lw_and (pw_and (lt_cmp og_notN (pt_cmpR op_notN (lr_var (pv 5)) (lr_c pe_non) (nomark _))) (lw_and (pw_and (lt_cmp og_cmp (pt_cmpR op_lt (lr_var (pv 4)) (lr_var (pv 1)) (nomark _))) (pw_and1 (lt_cmp og_cmp (pt_cmpR op_lt (lr_var (pv 5)) (lr_var (pv 1)) (nomark _)))))))))))
  (pss_one (ls_ret (ps_ret (lr_tup (pe_tup (la_cons (pa_cons (lr_c pe_int) (la_cons (pa_cons (lr_ix (pe_ix ix_seq (lr_var (pv 0)) (lr_var (pv 2)) (fun _ _ => rfl))) (la_cons (pa_cons (lr_var (pv 4)) (la_cons (pa_cons (lr_var (pv 5)) (la_nil pa_nil))))))))))))))
  (ls_next pss_nil))))))
  (ls_next pss_nil))))))
  (pss_one (ls_ret (ps_ret (lr_c pe_non))))))))
theorem sc_law_one : FnScope N_law_one ps_law_one (defScope st_law_one) := ⟨rfl, rfl, rfl, by decide +kernel, rfl, by decide +kernel, by decide +kernel⟩
theorem d_law_one (T : Txt K mg CBadArrow CBadMark CBadNumber CBadPoint CBadSize CBadStrike CBadText CTooMany CWeb) {f_law_take : Addr} {fd_law_take : FuncData} {sp_law_take : SpT} (g_law_take : Gd K mg "_law_take" st_law_take ps_law_take f_law_take fd_law_take) (G_law_take : FnOk P w K mg base CX0 1 f_law_take fd_law_take ps_law_take (spOf K sp_law_take)) {f : Addr} {cdv : Value} {A : Around} {outer : List Env} {s : Shared} {H : Hp} {E : XK} (hr : Room 1 (XC P w K mg base N_law_one "_law_one" st_law_one f cdv A outer s H E).A) : PSs (XC P w K mg base N_law_one "_law_one" st_law_one f cdv A outer s H E) (defBody st_law_one) (liftS K NoX (m_law_one sp_law_take)) := by
  have hu := hu64 hr
  exact (pss_one (ls_ret (ps_ret (lr_ix (pe_ix ix_seq (lr_var (pv 1)) (lr_call (dts := []) (fun _ => rfl) (pe_call G_law_take (hr.mono (by omega)) (by rfl) g_law_take.gl g_law_take.fn.kp g_law_take.bd .nil pass0 (la_cons (pa_cons (lr_var (pv 0)) (la_cons (pa_cons (lr_ca cg_len (pe_callB ca_len (by rfl) T.z_len bt_len (la_cons (pa_cons (lr_var (pv 1)) (la_nil pa_nil))))) (la_nil pa_nil))))))) (fun _ _ => rfl))))))
theorem sc_law_tie_in : FnScope N_law_tie_in ps_law_tie_in (defScope st_law_tie_in) := ⟨rfl, rfl, rfl, by decide +kernel, rfl, by decide +kernel, by decide +kernel⟩
theorem d_law_tie_in (T : Txt K mg CBadArrow CBadMark CBadNumber CBadPoint CBadSize CBadStrike CBadText CTooMany CWeb) {f_law_number_in : Addr} {fd_law_number_in : FuncData} {sp_law_number_in : SpT} (g_law_number_in : Gd K mg "_law_number_in" st_law_number_in ps_law_number_in f_law_number_in fd_law_number_in) (G_law_number_in : FnOk P w K mg base CX0 1 f_law_number_in fd_law_number_in ps_law_number_in (spOf K sp_law_number_in)) {f : Addr} {cdv : Value} {A : Around} {outer : List Env} {s : Shared} {H : Hp} {E : XK} (hr : Room 1 (XC P w K mg base N_law_tie_in "_law_tie_in" st_law_tie_in f cdv A outer s H E).A) : PSs (XC P w K mg base N_law_tie_in "_law_tie_in" st_law_tie_in f cdv A outer s H E) (defBody st_law_tie_in) (liftS K NoX (m_law_tie_in sp_law_number_in)) := by
  have hu := hu64 hr
  exact (ls_seq (pss_cons (ls_if (ps_if (lt_cmp (og_inSeq false) (pt_cmpR op_in_seq (lr_sl (pe_slice sl_all (lr_var (pv 0)) lo_none (lo_some (lr_c pe_int)))) (lr_tup (pe_tup (la_cons (pa_cons (lr_c pe_str) (la_cons (pa_cons (lr_c pe_str) (la_cons (pa_cons (lr_c pe_str) (la_nil pa_nil))))))))) (by rfl)))
  (ls_seq (pss_cons (ls_frz (ps_set (i := 6) sc_law_tie_in.nd rfl (by first | exact Or.inl rfl | exact Or.inr rfl) (lr_callU (dts := []) (fun _ => rfl) (pe_call G_law_number_in (hr.mono (by omega)) (by rfl) g_law_number_in.gl g_law_number_in.fn.kp g_law_number_in.bd .nil pass0 (la_cons (pa_cons (lr_sl (pe_slice sl_all (lr_var (pv 0)) (lo_some (lr_c pe_int)) lo_none)) (la_nil pa_nil)))))))
  (ls_seq (pss_cons (ls_frz (ps_set (i := 7) sc_law_tie_in.nd rfl (by first | exact Or.inl rfl | exact Or.inr rfl) (lr_op og_cmp (pe_cmpR op_lt (lr_var (pv 6)) (lr_var (pv 1)) (nomark _)))))
  (pss_one (ls_ret (ps_ret (lr_if (pe_ifExp (lt_val (pt_val (lr_var (pv 7)))) (lr_tup (pe_tup (la_cons (pa_cons (lr_c pe_int) (la_cons (pa_cons (lr_ix (pe_ix ix_seq (lr_var (pv 0)) (lr_c pe_int) (fun _ _ => rfl))) (la_cons (pa_cons (lr_var (pv 6)) (la_nil pa_nil))))))))) (lr_c pe_non))))))))))
  (ls_next pss_nil)))
  (ls_seq (pss_cons (ls_frzW (w_compR1 (ws := [3]) (by decide)) (ps_setLc (i := 2) (own := [("_law_at_here", 3)]) rfl sc_law_tie_in.nd rfl rfl (sw_true rfl rfl rfl rfl) (pi_range1 (by rfl) T.z_range (la_cons (pa_cons (lr_ca cg_len (pe_callB ca_len (by rfl) T.z_len bt_len (la_cons (pa_cons (lr_var (pv 0)) (la_nil pa_nil))))) (la_nil pa_nil)))) (blkOk_by (N := N_law_tie_in) (sc := defScope st_law_tie_in) (by decide +kernel)) (fun _ _ _ _ _ => (lg_slot (pg_name (i := 3) sc_law_tie_in.nd rfl (by first | exact Or.inl rfl | exact Or.inr rfl)))) (fun _ _ _ _ _ => (ltp_one (pts_one (lt_cmp og_inStr (pt_cmpR op_in_str (lr_ix (pe_ix ix_seq (lr_var (pv 0)) (lr_var (pv 3)) (fun _ _ => rfl))) (lr_c pe_str) (by rfl)))))) (fun _ _ _ _ _ => (lr_var (pv 3)))))
  (ls_seq (pss_cons (ls_if (ps_if (lt_cmp og_ne (pt_cmpR (op_neA hu) (lr_ca cg_len (pe_callB ca_len (by rfl) T.z_len bt_len (la_cons (pa_cons (lr_var (pv 2)) (la_nil pa_nil))))) (lr_c pe_int) (nomark _)))
  (pss_one (ls_ret (ps_ret (lr_c pe_non))))
  (ls_next pss_nil)))
  (ls_seq (pss_cons (ls_frz (ps_set (i := 3) sc_law_tie_in.nd rfl (by first | exact Or.inl rfl | exact Or.inr rfl) (lr_ix (pe_ix ix_seq (lr_var (pv 2)) (lr_c pe_int) (fun _ _ => rfl)))))
  (ls_seq (pss_cons (ls_frz (ps_set (i := 4) sc_law_tie_in.nd rfl (by first | exact Or.inl rfl | exact Or.inr rfl) (lr_callU (dts := []) (fun _ => rfl) (pe_call G_law_number_in (hr.mono (by omega)) (by rfl) g_law_number_in.gl g_law_number_in.fn.kp g_law_number_in.bd .nil pass0 (la_cons (pa_cons (lr_sl (pe_slice sl_all (lr_var (pv 0)) lo_none (lo_some (lr_var (pv 3))))) (la_nil pa_nil)))))))
  (ls_seq (pss_cons (ls_frz (ps_set (i := 5) sc_law_tie_in.nd rfl (by first | exact Or.inl rfl | exact Or.inr rfl) (lr_callU (dts := []) (fun _ => rfl) (pe_call G_law_number_in (hr.mono (by omega)) (by rfl) g_law_number_in.gl g_law_number_in.fn.kp g_law_number_in.bd .nil pass0 (la_cons (pa_cons (lr_sl (pe_slice sl_all (lr_var (pv 0)) (lo_some (lr_op og_add (pe_op op_addA (lr_var (pv 3)) (lr_c pe_int)))) lo_none)) (la_nil pa_nil)))))))
  (pss_one (ls_ret (ps_ret (lr_if (pe_ifExp (lt_cmp og_cmp (pt_cmpR op_lt (lr_ca cg_max2 (pe_callB (call_max2 rfl) (by rfl) T.z_max bt_max (la_cons (pa_cons (lr_var (pv 4)) (la_cons (pa_cons (lr_var (pv 5)) (la_nil pa_nil))))))) (lr_var (pv 1)) (nomark _))) (lr_tup (pe_tup (la_cons (pa_cons (lr_c pe_int) (la_cons (pa_cons (lr_ix (pe_ix ix_seq (lr_var (pv 0)) (lr_var (pv 3)) (fun _ _ => rfl))) (la_cons (pa_cons (lr_var (pv 4)) (la_cons (pa_cons (lr_var (pv 5)) (la_nil pa_nil))))))))))) (lr_c pe_non))))))))))))))))))
theorem sc_law_hue : FnScope N_law_hue ps_law_hue (defScope st_law_hue) := ⟨rfl, rfl, rfl, by decide +kernel, rfl, by decide +kernel, by decide +kernel⟩
theorem d_law_hue (T : Txt K mg CBadArrow CBadMark CBadNumber CBadPoint CBadSize CBadStrike CBadText CTooMany CWeb) {f_law_one : Addr} {fd_law_one : FuncData} {sp_law_one : SpT} (g_law_one : Gd K mg "_law_one" st_law_one ps_law_one f_law_one fd_law_one) (G_law_one : FnOk P w K mg base CX0 2 f_law_one fd_law_one ps_law_one (spOf K sp_law_one)) {f : Addr} {cdv : Value} {A : Around} {outer : List Env} {s : Shared} {H : Hp} {E : XK} (hr : Room 2 (XC P w K mg base N_law_hue "_law_hue" st_law_hue f cdv A outer s H E).A) : PSs (XC P w K mg base N_law_hue "_law_hue" st_law_hue f cdv A outer s H E) (defBody st_law_hue) (liftS K NoX (m_law_hue sp_law_one)) := by
  have hu := hu64 hr
  exact (pss_one (ls_ret (ps_ret (lr_call (dts := []) (fun _ => rfl) (pe_call G_law_one (hr.mono (by omega)) (by rfl) g_law_one.gl g_law_one.fn.kp g_law_one.bd .nil pass0 (la_cons (pa_cons (lr_var (pv 0)) (la_cons (pa_cons (lr_lst (pe_lst (la_cons (pa_cons (lr_c pe_str) (la_cons (pa_cons (lr_c pe_str) (la_cons (pa_cons (lr_c pe_str) (la_cons (pa_cons (lr_c pe_str) (la_cons (pa_cons (lr_c pe_str) (la_cons (pa_cons (lr_c pe_str) (la_nil pa_nil))))))))))))))) (la_nil pa_nil))))))))))
theorem sc_law_sign : FnScope N_law_sign ps_law_sign (defScope st_law_sign) := ⟨rfl, rfl, rfl, by decide +kernel, rfl, by decide +kernel, by decide +kernel⟩
theorem d_law_sign (T : Txt K mg CBadArrow CBadMark CBadNumber CBadPoint CBadSize CBadStrike CBadText CTooMany CWeb) {f_law_one : Addr} {fd_law_one : FuncData} {sp_law_one : SpT} (g_law_one : Gd K mg "_law_one" st_law_one ps_law_one f_law_one fd_law_one) (G_law_one : FnOk P w K mg base CX0 2 f_law_one fd_law_one ps_law_one (spOf K sp_law_one)) {f : Addr} {cdv : Value} {A : Around} {outer : List Env} {s : Shared} {H : Hp} {E : XK} (hr : Room 2 (XC P w K mg base N_law_sign "_law_sign" st_law_sign f cdv A outer s H E).A) : PSs (XC P w K mg base N_law_sign "_law_sign" st_law_sign f cdv A outer s H E) (defBody st_law_sign) (liftS K NoX (m_law_sign sp_law_one)) := by
  have hu := hu64 hr
  exact (pss_one (ls_ret (ps_ret (lr_call (dts := []) (fun _ => rfl) (pe_call G_law_one (hr.mono (by omega)) (by rfl) g_law_one.gl g_law_one.fn.kp g_law_one.bd .nil pass0 (la_cons (pa_cons (lr_var (pv 0)) (la_cons (pa_cons (lr_lst (pe_lst (la_cons (pa_cons (lr_c pe_str) (la_cons (pa_cons (lr_c pe_str) (la_cons (pa_cons (lr_c pe_str) (la_cons (pa_cons (lr_c pe_str) (la_nil pa_nil))))))))))) (la_nil pa_nil))))))))))
theorem sc_law_wrong_word : FnScope N_law_wrong_word ps_law_wrong_word (defScope st_law_wrong_word) := ⟨rfl, rfl, rfl, by decide +kernel, rfl, by decide +kernel, by decide +kernel⟩
theorem d_law_wrong_word (T : Txt K mg CBadArrow CBadMark CBadNumber CBadPoint CBadSize CBadStrike CBadText CTooMany CWeb) {f_law_number_in : Addr} {fd_law_number_in : FuncData} {sp_law_number_in : SpT} (g_law_number_in : Gd K mg "_law_number_in" st_law_number_in ps_law_number_in f_law_number_in fd_law_number_in) (G_law_number_in : FnOk P w K mg base CX0 1 f_law_number_in fd_law_number_in ps_law_number_in (spOf K sp_law_number_in)) {f_law_tie_in : Addr} {fd_law_tie_in : FuncData} {sp_law_tie_in : SpT} (g_law_tie_in : Gd K mg "_law_tie_in" st_law_tie_in ps_law_tie_in f_law_tie_in fd_law_tie_in) (G_law_tie_in : FnOk P w K mg base CX0 2 f_law_tie_in fd_law_tie_in ps_law_tie_in (spOf K sp_law_tie_in)) {f : Addr} {cdv : Value} {A : Around} {outer : List Env} {s : Shared} {H : Hp} {E : XK} (hr : Room 2 (XC P w K mg base N_law_wrong_word "_law_wrong_word" st_law_wrong_word f cdv A outer s H E).A) : PSs (XC P w K mg base N_law_wrong_word "_law_wrong_word" st_law_wrong_word f cdv A outer s H E) (defBody st_law_wrong_word) (liftS K NoX (m_law_wrong_word sp_law_number_in sp_law_tie_in)) := by
  have hu := hu64 hr
  exact (ls_seq (pss_cons (ls_frz (ps_set (i := 1) sc_law_wrong_word.nd rfl (by first | exact Or.inl rfl | exact Or.inr rfl) (lr_split (pe_split (lr_var (pv 0)) (lr_c pe_str)))))
  (ls_seq (pss_cons (ls_frz (ps_set (i := 2) sc_law_wrong_word.nd rfl (by first | exact Or.inl rfl | exact Or.inr rfl) (lr_callU (dts := []) (fun _ => rfl) (pe_call G_law_number_in (hr.mono (by omega)) (by rfl) g_law_number_in.gl g_law_number_in.fn.kp g_law_number_in.bd .nil pass0 (la_cons (pa_cons (lr_ix (pe_ix ix_seq (lr_var (pv 1)) (lr_c pe_int) (fun _ _ => rfl))) (la_nil pa_nil)))))))
  (ls_seq (pss_cons (ls_if (ps_if (lt_cmp og_cmp (pt_cmpR op_gt (lr_var (pv 2)) (lr_c pe_int) (nomark _)))
  (pss_one (ls_ret (ps_ret (lr_c pe_int))))
  (ls_next pss_nil)))
  (ls_seq (pss_cons (ls_frz (ps_set (i := 3) sc_law_wrong_word.nd rfl (by first | exact Or.inl rfl | exact Or.inr rfl) (lr_tup (pe_tup (la_cons (pa_cons (lr_c pe_int) (la_cons (pa_cons (lr_c pe_str) (la_nil pa_nil)))))))))
  (ls_seq (pss_cons (ls_forE (ws := [4, 5]) (ps_for PassesOwn.never rfl (pi_enumA (by rfl) T.z_enumerate (la_cons (pa_cons (lr_sl (pe_slice sl_all (lr_var (pv 1)) (lo_some (lr_c pe_int)) lo_none)) (la_nil pa_nil)))) (lg_tup (pg_tup rfl (lgs_cons (pgs_cons (lg_slot (pg_name (i := 4) sc_law_wrong_word.nd rfl (by first | exact Or.inl rfl | exact Or.inr rfl))) (lgs_cons (pgs_cons (lg_slot (pg_name (i := 5) sc_law_wrong_word.nd rfl (by first | exact Or.inl rfl | exact Or.inr rfl))) (lgs_nil pgs_nil)))))))
  (ls_seq (pss_cons (ls_frz (ps_set (i := 6) sc_law_wrong_word.nd rfl (by first | exact Or.inl rfl | exact Or.inr rfl) (lr_callU (dts := []) (fun _ => rfl) (pe_call G_law_tie_in (hr.mono (by omega)) (by rfl) g_law_tie_in.gl g_law_tie_in.fn.kp g_law_tie_in.bd .nil pass0 (la_cons (pa_cons (lr_var (pv 5)) (la_cons (pa_cons (lr_var (pv 2)) (la_nil pa_nil)))))))))
  (ls_seq (pss_cons (ls_if (ps_if (PW.pt (lw_or (pw_or (lt_cmp og_isN (pt_cmpR op_isN (lr_var (pv 6)) (lr_c pe_non) (nomark _))) (pw_or1 (lt_cmp og_leM (pt_cmpR (op_leM (by omega)) (lr_var (pv 6)) (lr_var (pv 3)) (nomark _)))))))
  (pss_one (ls_ret (ps_ret (lr_op og_add (pe_op op_addA (lr_var (pv 4)) (lr_c pe_int))))))
  (ls_next pss_nil)))
  (pss_one (ls_frz (ps_set (i := 3) sc_law_wrong_word.nd rfl (by first | exact Or.inl rfl | exact Or.inr rfl) (lr_var (pv 6)))))))))))
  (pss_one (ls_ret (ps_ret (lr_c pe_non))))))))))))))
theorem sc_law_bent_words : FnScope N_law_bent_words ps_law_bent_words (defScope st_law_bent_words) := ⟨rfl, rfl, rfl, by decide +kernel, rfl, by decide +kernel, by decide +kernel⟩
theorem d_law_bent_words (T : Txt K mg CBadArrow CBadMark CBadNumber CBadPoint CBadSize CBadStrike CBadText CTooMany CWeb) {f_law_take : Addr} {fd_law_take : FuncData} {sp_law_take : SpT} (g_law_take : Gd K mg "_law_take" st_law_take ps_law_take f_law_take fd_law_take) (G_law_take : FnOk P w K mg base CX0 1 f_law_take fd_law_take ps_law_take (spOf K sp_law_take)) {f_law_one : Addr} {fd_law_one : FuncData} {sp_law_one : SpT} (g_law_one : Gd K mg "_law_one" st_law_one ps_law_one f_law_one fd_law_one) (G_law_one : FnOk P w K mg base CX0 2 f_law_one fd_law_one ps_law_one (spOf K sp_law_one)) {f : Addr} {cdv : Value} {A : Around} {outer : List Env} {s : Shared} {H : Hp} {E : XK} (hr : Room 2 (XC P w K mg base N_law_bent_words "_law_bent_words" st_law_bent_words f cdv A outer s H E).A) : PSs (XC P w K mg base N_law_bent_words "_law_bent_words" st_law_bent_words f cdv A outer s H E) (defBody st_law_bent_words) (liftS K NoX (m_law_bent_words sp_law_take sp_law_one)) := by
  have hu := hu64 hr
  exact (ls_seq (pss_cons (ls_frz (ps_set (i := 2) sc_law_bent_words.nd rfl (by first | exact Or.inl rfl | exact Or.inr rfl) (lr_callU (dts := []) (fun _ => rfl) (pe_call G_law_take (hr.mono (by omega)) (by rfl) g_law_take.gl g_law_take.fn.kp g_law_take.bd .nil pass0 (la_cons (pa_cons (lr_var (pv 0)) (la_cons (pa_cons (lr_op og_add (pe_op op_addA (lr_ca cg_len (pe_callB ca_len (by rfl) T.z_len bt_len (la_cons (pa_cons (lr_var (pv 1)) (la_nil pa_nil))))) (lr_c pe_int))) (la_nil pa_nil)))))))))
  (ls_seq (pss_cons (ls_frz (ps_set (i := 3) sc_law_bent_words.nd rfl (by first | exact Or.inl rfl | exact Or.inr rfl) (lr_callU (dts := []) (fun _ => rfl) (pe_call G_law_one (hr.mono (by omega)) (by rfl) g_law_one.gl g_law_one.fn.kp g_law_one.bd .nil pass0 (la_cons (pa_cons (lr_var (pv 0)) (la_cons (pa_cons (lr_lst (pe_lst (la_cons (pa_cons (lr_c pe_str) (la_cons (pa_cons (lr_c pe_str) (la_cons (pa_cons (lr_c pe_str) (la_cons (pa_cons (lr_c pe_str) (la_cons (pa_cons (lr_c pe_str) (la_cons (pa_cons (lr_c pe_str) (la_cons (pa_cons (lr_c pe_str) (la_cons (pa_cons (lr_c pe_str) (la_cons (pa_cons (lr_c pe_str) (la_cons (pa_cons (lr_c pe_str) (la_nil pa_nil))))))))))))))))))))))) (la_nil pa_nil)))))))))
  (ls_seq (pss_cons (ls_frz (ps_set (i := 4) sc_law_bent_words.nd rfl (by first | exact Or.inl rfl | exact Or.inr rfl) (lr_split (pe_split (lr_var (pv 1)) (lr_c pe_str)))))
  (ls_seq (pss_cons (ls_frz (ps_set (i := 5) sc_law_bent_words.nd rfl (by first | exact Or.inl rfl | exact Or.inr rfl) (lr_callU (dts := []) (fun _ => rfl) (pe_call G_law_take (hr.mono (by omega)) (by rfl) g_law_take.gl g_law_take.fn.kp g_law_take.bd .nil pass0 (la_cons (pa_cons (lr_var (pv 0)) (la_cons (pa_cons (lr_ca cg_len (pe_callB ca_len (by rfl) T.z_len bt_len (la_cons (pa_cons (lr_var (pv 4)) (la_nil pa_nil))))) (la_nil pa_nil)))))))))
  (ls_seq (pss_cons (ls_frz (ps_set (i := 6) sc_law_bent_words.nd rfl (by first | exact Or.inl rfl | exact Or.inr rfl) (lr_callU (dts := []) (fun _ => rfl) (pe_call G_law_take (hr.mono (by omega)) (by rfl) g_law_take.gl g_law_take.fn.kp g_law_take.bd .nil pass0 (la_cons (pa_cons (lr_var (pv 0)) (la_cons (pa_cons (lr_c pe_int) (la_nil pa_nil)))))))))
  (ls_seq (pss_cons (ls_if (ps_if (lt_cmp og_cmp (pt_cmpR op_lt (lr_var (pv 6)) (lr_c pe_int) (nomark _)))
  (ls_seq (pss_cons (ls_frz (ps_set (i := 9) sc_law_bent_words.nd rfl (by first | exact Or.inl rfl | exact Or.inr rfl) (lr_sl (pe_slice sl_all (lr_var (pv 1)) (lo_some (lr_op og_add (pe_op op_addA (lr_var (pv 2)) (lr_ca cg_int (pe_callTy call_int1 (by rfl) T.z_int bt_int (la_cons (pa_cons (lr_op og_cmp (pe_cmpR op_gt (lr_var (pv 6)) (lr_c pe_int) (nomark _))) (la_nil pa_nil)))))))) lo_none))))
  (pss_one (ls_ret (ps_ret (lr_op og_add (pe_op op_addA (lr_op og_add (pe_op op_addA (lr_sl (pe_slice sl_all (lr_var (pv 1)) lo_none (lo_some (lr_var (pv 2))))) (lr_op og_mulS (pe_op op_mulS (lr_var (pv 3)) (lr_ca cg_int (pe_callTy call_int1 (by rfl) T.z_int bt_int (la_cons (pa_cons (lr_op og_cmp (pe_cmpR op_lt (lr_var (pv 6)) (lr_c pe_int) (nomark _))) (la_nil pa_nil))))))))) (lr_var (pv 9)))))))))
  (ls_next pss_nil)))
  (ls_seq (pss_cons (ls_if (ps_if (lt_cmp og_eq (pt_cmpR (op_eqA hu) (lr_var (pv 6)) (lr_c pe_int) (nomark _)))
  (pss_one (ls_ret (ps_ret (lr_join (pe_join (lr_c pe_str) (lr_op og_add (pe_op op_addA (lr_sl (pe_slice sl_all (lr_var (pv 4)) lo_none (lo_some (lr_op og_add (pe_op op_addA (lr_var (pv 5)) (lr_c pe_int)))))) (lr_sl (pe_slice sl_all (lr_var (pv 4)) (lo_some (lr_var (pv 5))) lo_none)))))))))
  (ls_next pss_nil)))
  (ls_seq (pss_cons (ls_if (ps_if (lt_cmp og_eq (pt_cmpR (op_eqA hu) (lr_var (pv 6)) (lr_c pe_int) (nomark _)))
  (pss_one (ls_ret (ps_ret (lr_join (pe_join (lr_c pe_str) (lr_op og_add (pe_op op_addA (lr_sl (pe_slice sl_all (lr_var (pv 4)) lo_none (lo_some (lr_var (pv 5))))) (lr_sl (pe_slice sl_all (lr_var (pv 4)) (lo_some (lr_op og_add (pe_op op_addA (lr_var (pv 5)) (lr_c pe_int)))) lo_none)))))))))
  (ls_next pss_nil)))
  (ls_seq (pss_cons (ls_if (ps_if (lt_cmp og_eq (pt_cmpR (op_eqA hu) (lr_var (pv 6)) (lr_c pe_int) (nomark _)))
  (ls_seq (pss_cons (ls_frz (ps_set (i := 10) sc_law_bent_words.nd rfl (by first | exact Or.inl rfl | exact Or.inr rfl) (lr_step (pe_step (lr_sl (pe_slice sl_all (lr_var (pv 4)) (lo_some (lr_var (pv 5))) (lo_some (lr_op og_add (pe_op op_addA (lr_var (pv 5)) (lr_c pe_int)))))) (lr_neg (pe_un un_neg pe_int))))))
  (pss_one (ls_ret (ps_ret (lr_join (pe_join (lr_c pe_str) (lr_op og_add (pe_op op_addA (lr_op og_add (pe_op op_addA (lr_sl (pe_slice sl_all (lr_var (pv 4)) lo_none (lo_some (lr_var (pv 5))))) (lr_var (pv 10)))) (lr_sl (pe_slice sl_all (lr_var (pv 4)) (lo_some (lr_op og_add (pe_op op_addA (lr_var (pv 5)) (lr_c pe_int)))) lo_none)))))))))))
  (ls_next pss_nil)))
  (ls_seq (pss_cons (ls_frz (ps_set (i := 7) sc_law_bent_words.nd rfl (by first | exact Or.inl rfl | exact Or.inr rfl) (lr_lst (pe_lst (la_cons (pa_cons (lr_c pe_str) (la_cons (pa_cons (lr_c pe_str) (la_cons (pa_cons (lr_c pe_str) (la_cons (pa_cons (lr_c pe_str) (la_cons (pa_cons (lr_c pe_str) (la_cons (pa_cons (lr_c pe_str) (la_cons (pa_cons (lr_c pe_str) (la_cons (pa_cons (lr_c pe_str) (la_nil pa_nil)))))))))))))))))))))
  (ls_seq (pss_cons (ls_frz (ps_set (i := 8) sc_law_bent_words.nd rfl (by first | exact Or.inl rfl | exact Or.inr rfl) (lr_callU (dts := []) (fun _ => rfl) (pe_call G_law_one (hr.mono (by omega)) (by rfl) g_law_one.gl g_law_one.fn.kp g_law_one.bd .nil pass0 (la_cons (pa_cons (lr_var (pv 0)) (la_cons (pa_cons (lr_op og_add (pe_op op_addA (lr_var (pv 7)) (lr_lst (pe_lst (la_cons (pa_cons (lr_c pe_str) (la_cons (pa_cons (lr_c pe_str) (la_cons (pa_cons (lr_c pe_str) (la_cons (pa_cons (lr_c pe_str) (la_cons (pa_cons (lr_c pe_str) (la_nil pa_nil))))))))))))))) (la_nil pa_nil)))))))))
  (pss_one (ls_ret (ps_ret (lr_join (pe_join (lr_c pe_str) (lr_op og_add (pe_op op_addA (lr_op og_add (pe_op op_addA (lr_sl (pe_slice sl_all (lr_var (pv 4)) lo_none (lo_some (lr_var (pv 5))))) (lr_lst (pe_lst (la_cons (pa_cons (lr_var (pv 8)) (la_nil pa_nil))))))) (lr_sl (pe_slice sl_all (lr_var (pv 4)) (lo_some (lr_var (pv 5))) lo_none)))))))))))))))))))))))))))))))
theorem sc_read_web_x : FnScope N_read_web_x ps_read_web_x (defScope st_read_web_x) := ⟨rfl, rfl, rfl, by decide +kernel, rfl, by decide +kernel, by decide +kernel⟩
theorem d_read_web_x (T : Txt K mg CBadArrow CBadMark CBadNumber CBadPoint CBadSize CBadStrike CBadText CTooMany CWeb) {f_number_in : Addr} {fd_number_in : FuncData} {sp_number_in : SpT} (g_number_in : Gd K mg "number_in" st_number_in ps_number_in f_number_in fd_number_in) (G_number_in : FnOk P w K mg base CX0 1 f_number_in fd_number_in ps_number_in (spOf K sp_number_in)) {f_tie_in : Addr} {fd_tie_in : FuncData} {sp_tie_in : SpT} (g_tie_in : Gd K mg "tie_in" st_tie_in ps_tie_in f_tie_in fd_tie_in) (G_tie_in : FnOk P w K mg base CX0 2 f_tie_in fd_tie_in ps_tie_in (spOf K sp_tie_in)) {f_Web_init : Addr} {fd_Web_init : FuncData} {sp_Web_init : SpT} (G_Web_init : FnOk P w K mg base CX0 2 f_Web_init fd_Web_init ps_Web_init (spOf K sp_Web_init)) (mk_Web : Mk K CWeb f_Web_init) (gl_Web : mg "Web" = some (.ref CWeb)) (kbe_Web_1_arrows_marks : ∃ mv : List Value, KBn K fd_Web_init ps_Web_init 2 ["arrows", "marks"] (fun us ws => gp_Web_1_arrows_marks us mv ws) (fun vs zs => gp_Web_1_arrows_marks vs [] zs)) (er_BadText : Err P w K mg base CBadText "BadText" "at") {f : Addr} {cdv : Value} {A : Around} {outer : List Env} {s : Shared} {H : Hp} {E : XK} (hr : Room 3 (XCX P w K mg base N_read_web_x "read_web" st_read_web_x f cdv A outer s H E).A) : PSs (XCX P w K mg base N_read_web_x "read_web" st_read_web_x f cdv A outer s H E) (defBody st_read_web_x) (liftS K (ofE E) (m_read_web_x sp_number_in sp_tie_in sp_Web_init CBadText CWeb)) := by
  have hu := hu64 hr
  obtain ⟨mv_Web_1_arrows_marks, kb_Web_1_arrows_marks⟩ := kbe_Web_1_arrows_marks
  exact (ls_seq (pss_cons (ls_starR (ps_starR (i := 4) (j := 8) rfl sc_read_web_x.nd rfl rfl (by first | exact Or.inl rfl | exact Or.inr rfl) (by first | exact Or.inl rfl | exact Or.inr rfl) (by first | exact .inl rfl | exact .inr rfl) (by first | exact .inl rfl | exact .inr rfl) (lr_split (pe_split (lr_var (pv 0)) (lr_c pe_str)))))
  (ls_seq (pss_cons (ls_frz (ps_set (i := 1) sc_read_web_x.nd rfl (by first | exact Or.inl rfl | exact Or.inr rfl) (lr_callU (dts := []) (fun _ => rfl) (pe_call G_number_in (hr.mono (by omega)) (by rfl) g_number_in.gl g_number_in.fn.kp g_number_in.bd .nil pass0 (la_cons (pa_cons (lr_var (pv 4)) (la_nil pa_nil)))))))
  (ls_seq (pss_cons (ls_if (ps_if (PW.pt (lw_or (pw_or (lt_cmp og_isN (pt_cmpR op_isN (lr_var (pv 1)) (lr_c pe_non) (nomark _))) (pw_or1 (lt_cmp og_cmp (pt_cmpR op_gt (lr_var (pv 1)) (lr_c (C8.pe_gc (by rfl) T.g_MOST_POINTS)) (nomark _)))))))
  (pss_one (ls_err er_BadText rfl takesX (hr.mono (by omega)) (by rfl) (la_cons (pa_cons (lr_c pe_int) (la_nil pa_nil)))))
  (ls_next pss_nil)))
  (ls_seq (pss_cons (ls_set (ps_set (i := 2) sc_read_web_x.nd rfl (by first | exact Or.inl rfl | exact Or.inr rfl) (lr_lst (pe_lst (la_nil pa_nil)))))
  (ls_seq (pss_cons (ls_forE (ws := [5, 6]) (ps_for (passes_of rfl) rfl (pi_enumA (by rfl) T.z_enumerate (la_cons (pa_cons (lr_var (pv 8)) (la_nil pa_nil)))) (lg_tup (pg_tup rfl (lgs_cons (pgs_cons (lg_slot (pg_name (i := 5) sc_read_web_x.nd rfl (by first | exact Or.inl rfl | exact Or.inr rfl))) (lgs_cons (pgs_cons (lg_slot (pg_name (i := 6) sc_read_web_x.nd rfl (by first | exact Or.inl rfl | exact Or.inr rfl))) (lgs_nil pgs_nil)))))))
  (ls_seq (pss_cons (ls_frz (ps_set (i := 7) sc_read_web_x.nd rfl (by first | exact Or.inl rfl | exact Or.inr rfl) (lr_callU (dts := []) (fun _ => rfl) (pe_call G_tie_in (hr.mono (by omega)) (by rfl) g_tie_in.gl g_tie_in.fn.kp g_tie_in.bd .nil pass0 (la_cons (pa_cons (lr_var (pv 6)) (la_cons (pa_cons (lr_var (pv 1)) (la_nil pa_nil)))))))))
  (ls_seq (pss_cons (ls_if (ps_if (PW.pt (lw_or (pw_or (lt_cmp og_isN (pt_cmpR op_isN (lr_var (pv 7)) (lr_c pe_non) (nomark _))) (pw_or1 (PW.pt (lw_and (pw_and (lt_cmp og_ne (pt_cmpR (op_neA hu) (lr_var (pv 2)) (lr_lst (pe_lst (la_nil pa_nil))) (nomark _))) (pw_and1 (lt_cmp og_leM (pt_cmpR (op_leM (by omega)) (lr_var (pv 7)) (lr_ix (pe_ix ix_seq (lr_var (pv 2)) (lr_neg (pe_un un_neg pe_int)) (fun _ _ => rfl))) (nomark _)))))))))))
  (pss_one (ls_err er_BadText rfl takesX (hr.mono (by omega)) (by rfl) (la_cons (pa_cons (lr_op og_add (pe_op op_addA (lr_var (pv 5)) (lr_c pe_int))) (la_nil pa_nil)))))
  (ls_next pss_nil)))
  (pss_one (ls_mut mu_append (ps_expr (pe_bm PySem.F.plainAttrs_list PySem.F.slot_list_append PySem.F.type_list_append mt_append (lp_var (pv 2)) (la_cons (pa_cons (lr_var (pv 7)) (la_nil pa_nil)))))))))))))
  (ls_seq (pss_cons (ls_frzW (w_compS (ws := [7]) (by decide)) (ps_setLc (i := 3) (own := [("rank", 7)]) rfl sc_read_web_x.nd rfl rfl (sw_true rfl rfl rfl rfl) (pi_seqA (lr_var (pv 2))) (blkOk_by (N := N_read_web_x) (sc := defScope st_read_web_x) (by decide +kernel)) (fun _ _ _ _ _ => (lg_slot (pg_name (i := 7) sc_read_web_x.nd rfl (by first | exact Or.inl rfl | exact Or.inr rfl)))) (fun _ _ _ _ _ => (ltp_one (pts_one (lt_cmp og_eq (pt_cmpR (op_eqA hu) (lr_ix (pe_ix ix_seq (lr_var (pv 7)) (lr_c pe_int) (fun _ _ => rfl))) (lr_c pe_int) (nomark _)))))) (fun _ _ _ _ _ => (lr_sl (pe_slice sl_all (lr_var (pv 7)) (lo_some (lr_c pe_int)) lo_none)))))
  (pss_one (ls_ret (ps_ret (lr_makeKT (gV' := gv_Web_1_arrows_marks) (he_Web_1_arrows_marks) (hT_Web_1_arrows_marks) (pe_makeK mk_Web G_Web_init (hr.mono (by omega)) (by rfl) gl_Web kb_Web_1_arrows_marks pass0 (la_cons (pa_cons (lr_var (pv 1)) (la_nil pa_nil))) (lk_cons (pk_cons (lr_var (pv 3)) (lk_cons (pk_cons (lr_compS (ws := [7]) (by decide) (pe_lc (own := [("rank", 7)]) rfl sc_read_web_x.nd (pi_seqA (lr_var (pv 2))) (blkOk_by (N := N_read_web_x) (sc := defScope st_read_web_x) (by decide +kernel)) (fun _ _ _ _ _ => (lg_slot (pg_name (i := 7) sc_read_web_x.nd rfl (by first | exact Or.inl rfl | exact Or.inr rfl)))) (fun _ _ _ _ _ => (ltp_one (pts_one (lt_cmp og_eq (pt_cmpR (op_eqA hu) (lr_ix (pe_ix ix_seq (lr_var (pv 7)) (lr_c pe_int) (fun _ _ => rfl))) (lr_c pe_int) (nomark _)))))) (fun _ _ _ _ _ => (lr_sl (pe_slice sl_all (lr_var (pv 7)) (lo_some (lr_c pe_int)) lo_none))))) (lk_nil pk_nil))))))))))))))))))))))
theorem sc_law_same : FnScope N_law_same ps_law_same (defScope st_law_same) := ⟨rfl, rfl, rfl, by decide +kernel, rfl, by decide +kernel, by decide +kernel⟩
theorem d_law_same (T : Txt K mg CBadArrow CBadMark CBadNumber CBadPoint CBadSize CBadStrike CBadText CTooMany CWeb) {k : Nat} {f_law_same : Addr} {fd_law_same : FuncData} {sp_law_same : SpT} (g_law_same : Gd K mg "_law_same" st_law_same ps_law_same f_law_same fd_law_same) (G_law_same : FnOk P w K mg base CX0 k f_law_same fd_law_same ps_law_same (spOf K sp_law_same)) {f : Addr} {cdv : Value} {A : Around} {outer : List Env} {s : Shared} {H : Hp} {E : XK} (hr : Room k (XC P w K mg base N_law_same "_law_same" st_law_same f cdv A outer s H E).A) : PSs (XC P w K mg base N_law_same "_law_same" st_law_same f cdv A outer s H E) (defBody st_law_same) (liftS K NoX (m_law_same sp_law_same)) := by
  have hu := hu64 hr
  exact (ls_seq (pss_cons (ls_if (ps_if (lt_cmp og_isN (pt_cmpR op_isN (lr_var (pv 1)) (lr_c pe_non) (nomark _)))
  (pss_one (ls_ret (ps_ret (lr_op og_isN (pe_cmpR op_isN (lr_var (pv 0)) (lr_c pe_non) (nomark _))))))
  (ls_next pss_nil)))
  (ls_seq (pss_cons (ls_if (ps_if (PW.pt (lw_or (pw_or (lt_val (pt_val (lr_is (by decide) (pe_callB call_isi (by rfl) T.z_isinstance bt_isinstance (pa_cons (lr_var (pv 1)) (pa_cons (pe_bltn (by rfl) T.z_list bt_list rfl) pa_nil)))))) (pw_or1 (lt_val (pt_val (lr_is (by decide) (pe_callB call_isi (by rfl) T.z_isinstance bt_isinstance (pa_cons (lr_var (pv 1)) (pa_cons (pe_bltn (by rfl) T.z_tuple bt_tuple rfl) pa_nil))))))))))
  (ls_seq (pss_cons (ls_if (ps_if (PW.pt (lw_or (pw_or (lt_cmp og_ne (pt_cmpR (op_neA hu) (lr_is (by decide) (pe_callB call_isi (by rfl) T.z_isinstance bt_isinstance (pa_cons (lr_var (pv 0)) (pa_cons (pe_bltn (by rfl) T.z_list bt_list rfl) pa_nil)))) (lr_is (by decide) (pe_callB call_isi (by rfl) T.z_isinstance bt_isinstance (pa_cons (lr_var (pv 1)) (pa_cons (pe_bltn (by rfl) T.z_list bt_list rfl) pa_nil)))) (nomark _))) (pw_or1 (lt_cmp og_ne (pt_cmpR (op_neA hu) (lr_is (by decide) (pe_callB call_isi (by rfl) T.z_isinstance bt_isinstance (pa_cons (lr_var (pv 0)) (pa_cons (pe_bltn (by rfl) T.z_tuple bt_tuple rfl) pa_nil)))) (lr_is (by decide) (pe_callB call_isi (by rfl) T.z_isinstance bt_isinstance (pa_cons (lr_var (pv 1)) (pa_cons (pe_bltn (by rfl) T.z_tuple bt_tuple rfl) pa_nil)))) (nomark _)))))))
  (pss_one (ls_ret (ps_ret (lr_c pe_bl))))
  (ls_next pss_nil)))
  (pss_one (ls_ret (ps_ret (lr_and (pe_and (lr_op og_eq (pe_cmpR (op_eqA hu) (lr_ca cg_len (pe_callB ca_len (by rfl) T.z_len bt_len (la_cons (pa_cons (lr_var (pv 0)) (la_nil pa_nil))))) (lr_ca cg_len (pe_callB ca_len (by rfl) T.z_len bt_len (la_cons (pa_cons (lr_var (pv 1)) (la_nil pa_nil))))) (nomark _))) (pe_one (lr_ca (cg_bools _) (pe_callB (cr_all rfl) (by rfl) T.z_all bt_all (la_cons (pa_cons (lr_compZA (ws := [2, 3]) (by decide) (pe_lc (own := [("_law_one_here", 2), ("_law_other", 3)]) rfl sc_law_same.nd (RZ.pi_zipA (by rfl) T.z_zip (la_cons (pa_cons (lr_var (pv 0)) (la_cons (pa_cons (lr_var (pv 1)) (la_nil pa_nil)))))) (blkOk_by (N := N_law_same) (sc := defScope st_law_same) (by decide +kernel)) (fun _ _ _ _ _ => (lg_tup (pg_tup rfl (lgs_cons (pgs_cons (lg_slot (pg_name (i := 2) sc_law_same.nd rfl (by first | exact Or.inl rfl | exact Or.inr rfl))) (lgs_cons (pgs_cons (lg_slot (pg_name (i := 3) sc_law_same.nd rfl (by first | exact Or.inl rfl | exact Or.inr rfl))) (lgs_nil pgs_nil)))))))) (fun _ _ _ _ _ => (ltp_nil pts_nil)) (fun _ _ _ _ _ => (lr_call (dts := []) (fun _ => rfl) (pe_call G_law_same (hr.mono (by omega)) (by rfl) g_law_same.gl g_law_same.fn.kp g_law_same.bd .nil pass0 (la_cons (pa_cons (lr_var (pv 2)) (la_cons (pa_cons (lr_var (pv 3)) (la_nil pa_nil)))))))))) (la_nil pa_nil)))))))))))))
  (ls_next pss_nil)))
  (ls_seq (pss_cons (ls_if (ps_if (PW.pt (lw_or (pw_or (lt_cmp og_ne (pt_cmpR (op_neA hu) (lr_is (by decide) (pe_callB call_isi (by rfl) T.z_isinstance bt_isinstance (pa_cons (lr_var (pv 1)) (pa_cons (pe_bltn (by rfl) T.z_bool bt_bool rfl) pa_nil)))) (lr_is (by decide) (pe_callB call_isi (by rfl) T.z_isinstance bt_isinstance (pa_cons (lr_var (pv 0)) (pa_cons (pe_bltn (by rfl) T.z_bool bt_bool rfl) pa_nil)))) (nomark _))) (pw_or1 (lt_cmp og_ne (pt_cmpR (op_neA hu) (lr_is (by decide) (pe_callB call_isi (by rfl) T.z_isinstance bt_isinstance (pa_cons (lr_var (pv 1)) (pa_cons (pe_bltn (by rfl) T.z_int bt_int rfl) pa_nil)))) (lr_is (by decide) (pe_callB call_isi (by rfl) T.z_isinstance bt_isinstance (pa_cons (lr_var (pv 0)) (pa_cons (pe_bltn (by rfl) T.z_int bt_int rfl) pa_nil)))) (nomark _)))))))
  (pss_one (ls_ret (ps_ret (lr_c pe_bl))))
  (ls_next pss_nil)))
  (pss_one (ls_ret (ps_ret (lr_and (pe_and (lr_op og_eq (pe_cmpR (op_eqA hu) (lr_is (by decide) (pe_callB call_isi (by rfl) T.z_isinstance bt_isinstance (pa_cons (lr_var (pv 0)) (pa_cons (pe_bltn (by rfl) T.z_str bt_str rfl) pa_nil)))) (lr_is (by decide) (pe_callB call_isi (by rfl) T.z_isinstance bt_isinstance (pa_cons (lr_var (pv 1)) (pa_cons (pe_bltn (by rfl) T.z_str bt_str rfl) pa_nil)))) (nomark _))) (pe_one (lr_op og_eq (pe_cmpR (op_eqA hu) (lr_var (pv 0)) (lr_var (pv 1)) (nomark _)))))))))))))))
theorem sc_law_arrow : FnScope N_law_arrow ps_law_arrow (defScope st_law_arrow) := ⟨rfl, rfl, rfl, by decide +kernel, rfl, by decide +kernel, by decide +kernel⟩
theorem d_law_arrow (T : Txt K mg CBadArrow CBadMark CBadNumber CBadPoint CBadSize CBadStrike CBadText CTooMany CWeb) {f_law_hue : Addr} {fd_law_hue : FuncData} {sp_law_hue : SpT} (g_law_hue : Gd K mg "_law_hue" st_law_hue ps_law_hue f_law_hue fd_law_hue) (G_law_hue : FnOk P w K mg base CX0 3 f_law_hue fd_law_hue ps_law_hue (spOf K sp_law_hue)) {f_law_take : Addr} {fd_law_take : FuncData} {sp_law_take : SpT} (g_law_take : Gd K mg "_law_take" st_law_take ps_law_take f_law_take fd_law_take) (G_law_take : FnOk P w K mg base CX0 1 f_law_take fd_law_take ps_law_take (spOf K sp_law_take)) {f : Addr} {cdv : Value} {A : Around} {outer : List Env} {s : Shared} {H : Hp} {E : XK} (hr : Room 3 (XC P w K mg base N_law_arrow "_law_arrow" st_law_arrow f cdv A outer s H E).A) : PSs (XC P w K mg base N_law_arrow "_law_arrow" st_law_arrow f cdv A outer s H E) (defBody st_law_arrow) (liftS K NoX (m_law_arrow sp_law_hue sp_law_take)) := by
  have hu := hu64 hr
  exact (pss_one (ls_ret (ps_ret (lr_tup (pe_tup (la_cons (pa_cons (lr_call (dts := []) (fun _ => rfl) (pe_call G_law_hue (hr.mono (by omega)) (by rfl) g_law_hue.gl g_law_hue.fn.kp g_law_hue.bd .nil pass0 (la_cons (pa_cons (lr_var (pv 0)) (la_nil pa_nil))))) (la_cons (pa_cons (lr_call (dts := []) (fun _ => rfl) (pe_call G_law_take (hr.mono (by omega)) (by rfl) g_law_take.gl g_law_take.fn.kp g_law_take.bd .nil pass0 (la_cons (pa_cons (lr_var (pv 0)) (la_cons (pa_cons (lr_var (pv 1)) (la_nil pa_nil))))))) (la_cons (pa_cons (lr_call (dts := []) (fun _ => rfl) (pe_call G_law_take (hr.mono (by omega)) (by rfl) g_law_take.gl g_law_take.fn.kp g_law_take.bd .nil pass0 (la_cons (pa_cons (lr_var (pv 0)) (la_cons (pa_cons (lr_var (pv 1)) (la_nil pa_nil))))))) (la_nil pa_nil))))))))))))
theorem sc_law_web_c : FnScope N_law_web_c ps_law_web_c (defScope st_law_web_c) := ⟨rfl, rfl, rfl, by decide +kernel, rfl, by decide +kernel, by decide +kernel⟩
theorem d_law_web_c (T : Txt K mg CBadArrow CBadMark CBadNumber CBadPoint CBadSize CBadStrike CBadText CTooMany CWeb) {f_law_take : Addr} {fd_law_take : FuncData} {sp_law_take : SpT} (g_law_take : Gd K mg "_law_take" st_law_take ps_law_take f_law_take fd_law_take) (G_law_take : FnOk P w K mg base CX0 1 f_law_take fd_law_take ps_law_take (spOf K sp_law_take)) {f_law_one : Addr} {fd_law_one : FuncData} {sp_law_one : SpT} (g_law_one : Gd K mg "_law_one" st_law_one ps_law_one f_law_one fd_law_one) (G_law_one : FnOk P w K mg base CX0 2 f_law_one fd_law_one ps_law_one (spOf K sp_law_one)) {f_law_arrow : Addr} {fd_law_arrow : FuncData} {sp_law_arrow : SpT} (g_law_arrow : Gd K mg "_law_arrow" st_law_arrow ps_law_arrow f_law_arrow fd_law_arrow) (G_law_arrow : FnOk P w K mg base CX0 4 f_law_arrow fd_law_arrow ps_law_arrow (spOf K sp_law_arrow)) {f_law_sign : Addr} {fd_law_sign : FuncData} {sp_law_sign : SpT} (g_law_sign : Gd K mg "_law_sign" st_law_sign ps_law_sign f_law_sign fd_law_sign) (G_law_sign : FnOk P w K mg base CX0 3 f_law_sign fd_law_sign ps_law_sign (spOf K sp_law_sign)) {f_law_unlike : Addr} {fd_law_unlike : FuncData} {sp_law_unlike : SpT} (g_law_unlike : Gd K mg "_law_unlike" st_law_unlike ps_law_unlike f_law_unlike fd_law_unlike) (G_law_unlike : FnOk P w K mg base CX0 1 f_law_unlike fd_law_unlike ps_law_unlike (spOf K sp_law_unlike)) {f : Addr} {cdv : Value} {A : Around} {outer : List Env} {s : Shared} {H : Hp} {E : XK} (hr : Room 4 (XC P w K mg base N_law_web_c "_law_web" st_law_web_c f cdv A outer s H E).A) : PSs (XC P w K mg base N_law_web_c "_law_web" st_law_web_c f cdv A outer s H E) (defBody st_law_web_c) (liftS K NoX (m_law_web_c sp_law_take sp_law_one sp_law_arrow sp_law_sign sp_law_unlike)) := by
  have hu := hu64 hr
  exact (ls_seq (pss_cons (ls_set (ps_set (i := 3) sc_law_web_c.nd rfl (by first | exact Or.inl rfl | exact Or.inr rfl) (lr_op og_add (pe_op op_addA (lr_var (pv 1)) (lr_call (dts := []) (fun _ => rfl) (pe_call G_law_take (hr.mono (by omega)) (by rfl) g_law_take.gl g_law_take.fn.kp g_law_take.bd .nil pass0 (la_cons (pa_cons (lr_var (pv 0)) (la_cons (pa_cons (lr_op og_add (pe_op op_addA (lr_op og_I0 (pe_op op_sub (lr_var (pv 2)) (lr_var (pv 1)))) (lr_c pe_int))) (la_nil pa_nil)))))))))))
  (ls_seq (pss_cons (ls_if (ps_if (lt_cmp og_eq (pt_cmpR (op_eqA hu) (lr_var (pv 3)) (lr_c pe_int) (nomark _)))
  (pss_one (ls_ret (ps_ret (lr_tup (pe_tup (la_cons (pa_cons (lr_c pe_int) (la_cons (pa_cons (lr_lst (pe_lst (la_nil pa_nil))) (la_cons (pa_cons (lr_lst (pe_lst (la_nil pa_nil))) (la_nil pa_nil))))))))))))
  (ls_next pss_nil)))
  (ls_seq (pss_cons (ls_set (ps_set (i := 4) sc_law_web_c.nd rfl (by first | exact Or.inl rfl | exact Or.inr rfl) (lr_call (dts := []) (fun _ => rfl) (pe_call G_law_one (hr.mono (by omega)) (by rfl) g_law_one.gl g_law_one.fn.kp g_law_one.bd .nil pass0 (la_cons (pa_cons (lr_var (pv 0)) (la_cons (pa_cons (lr_lst (pe_lst (la_cons (pa_cons (lr_var (pv 3)) (la_cons (pa_cons (lr_var (pv 3)) (la_cons (pa_cons (lr_op og_I (pe_op op_mulI (lr_c pe_int) (lr_var (pv 3)))) (la_cons (pa_cons (lr_c pe_int) (la_nil pa_nil))))))))))) (la_nil pa_nil)))))))))
  (ls_seq (pss_cons (ls_setW (w_compR1 (ws := [7]) (by decide)) (ps_setLc (i := 5) (own := [("_law_k", 7)]) rfl sc_law_web_c.nd rfl rfl (sw_true rfl rfl rfl rfl) (pi_range1 (by rfl) T.z_range (la_cons (pa_cons (lr_call (dts := []) (fun _ => rfl) (pe_call G_law_take (hr.mono (by omega)) (by rfl) g_law_take.gl g_law_take.fn.kp g_law_take.bd .nil pass0 (la_cons (pa_cons (lr_var (pv 0)) (la_cons (pa_cons (lr_op og_add (pe_op op_addA (lr_var (pv 4)) (lr_c pe_int))) (la_nil pa_nil))))))) (la_nil pa_nil)))) (blkOk_by (N := N_law_web_c) (sc := defScope st_law_web_c) (by decide +kernel)) (fun _ _ _ _ _ => (lg_slot (pg_name (i := 7) sc_law_web_c.nd rfl (by first | exact Or.inl rfl | exact Or.inr rfl)))) (fun _ _ _ _ _ => (ltp_nil pts_nil)) (fun _ _ _ _ _ => (lr_call (dts := []) (fun _ => rfl) (pe_call G_law_arrow (hr.mono (by omega)) (by rfl) g_law_arrow.gl g_law_arrow.fn.kp g_law_arrow.bd .nil pass0 (la_cons (pa_cons (lr_var (pv 0)) (la_cons (pa_cons (lr_var (pv 3)) (la_nil pa_nil))))))))))
  (ls_seq (pss_cons (ls_setW (w_compR1 (ws := [7]) (by decide)) (ps_setLc (i := 6) (own := [("_law_k", 7)]) rfl sc_law_web_c.nd rfl rfl (sw_true rfl rfl rfl rfl) (pi_range1 (by rfl) T.z_range (la_cons (pa_cons (lr_call (dts := []) (fun _ => rfl) (pe_call G_law_one (hr.mono (by omega)) (by rfl) g_law_one.gl g_law_one.fn.kp g_law_one.bd .nil pass0 (la_cons (pa_cons (lr_var (pv 0)) (la_cons (pa_cons (lr_lst (pe_lst (la_cons (pa_cons (lr_c pe_int) (la_cons (pa_cons (lr_c pe_int) (la_cons (pa_cons (lr_c pe_int) (la_cons (pa_cons (lr_c pe_int) (la_cons (pa_cons (lr_var (pv 3)) (la_nil pa_nil))))))))))))) (la_nil pa_nil))))))) (la_nil pa_nil)))) (blkOk_by (N := N_law_web_c) (sc := defScope st_law_web_c) (by decide +kernel)) (fun _ _ _ _ _ => (lg_slot (pg_name (i := 7) sc_law_web_c.nd rfl (by first | exact Or.inl rfl | exact Or.inr rfl)))) (fun _ _ _ _ _ => (ltp_nil pts_nil)) (fun _ _ _ _ _ => (lr_tup (pe_tup (la_cons (pa_cons (lr_call (dts := []) (fun _ => rfl) (pe_call G_law_sign (hr.mono (by omega)) (by rfl) g_law_sign.gl g_law_sign.fn.kp g_law_sign.bd .nil pass0 (la_cons (pa_cons (lr_var (pv 0)) (la_nil pa_nil))))) (la_cons (pa_cons (lr_call (dts := []) (fun _ => rfl) (pe_call G_law_take (hr.mono (by omega)) (by rfl) g_law_take.gl g_law_take.fn.kp g_law_take.bd .nil pass0 (la_cons (pa_cons (lr_var (pv 0)) (la_cons (pa_cons (lr_var (pv 3)) (la_nil pa_nil))))))) (la_nil pa_nil))))))))))
  (pss_one (ls_ret (ps_ret (lr_tup (pe_tup (la_cons (pa_cons (lr_var (pv 3)) (la_cons (pa_cons (lr_callT (dts := []) (fun _ => rfl) (pe_call G_law_unlike (hr.mono (by omega)) (by rfl) g_law_unlike.gl g_law_unlike.fn.kp g_law_unlike.bd .nil pass0 (la_cons (pa_cons (lr_var (pv 5)) (la_nil pa_nil))))) (la_cons (pa_cons (lr_callT (dts := []) (fun _ => rfl) (pe_call G_law_unlike (hr.mono (by omega)) (by rfl) g_law_unlike.gl g_law_unlike.fn.kp g_law_unlike.bd .nil pass0 (la_cons (pa_cons (lr_var (pv 6)) (la_nil pa_nil))))) (la_nil pa_nil))))))))))))))))))))))
theorem sc_law : FnScope N_law ps_law (defScope st_law) := ⟨rfl, rfl, rfl, by decide +kernel, rfl, by decide +kernel, by decide +kernel⟩
theorem d_law (T : Txt K mg CBadArrow CBadMark CBadNumber CBadPoint CBadSize CBadStrike CBadText CTooMany CWeb) {f_law_box : Addr} {fd_law_box : FuncData} {sp_law_box : SpT} (g_law_box : Gd K mg "_law_box" st_law_box ps_law_box f_law_box fd_law_box) (G_law_box : FnOk P w K mg base CX0 1 f_law_box fd_law_box ps_law_box (spOf K sp_law_box)) {f_law_words : Addr} {fd_law_words : FuncData} {sp_law_words : SpT} (g_law_words : Gd K mg "_law_words" st_law_words ps_law_words f_law_words fd_law_words) (G_law_words : FnOk P w K mg base CX0 1 f_law_words fd_law_words ps_law_words (spOf K sp_law_words)) {f_law_web_c : Addr} {fd_law_web_c : FuncData} {sp_law_web : SpT} (g_law_web_c : Gd K mg "_law_web" st_law_web_c ps_law_web_c f_law_web_c fd_law_web_c) (G_law_web_c : FnOk P w K mg base CX0 5 f_law_web_c fd_law_web_c ps_law_web_c (spOf K sp_law_web)) {f_law_one : Addr} {fd_law_one : FuncData} {sp_law_one : SpT} (g_law_one : Gd K mg "_law_one" st_law_one ps_law_one f_law_one fd_law_one) (G_law_one : FnOk P w K mg base CX0 2 f_law_one fd_law_one ps_law_one (spOf K sp_law_one)) {f_law_bent_words : Addr} {fd_law_bent_words : FuncData} {sp_law_bent_words : SpT} (g_law_bent_words : Gd K mg "_law_bent_words" st_law_bent_words ps_law_bent_words f_law_bent_words fd_law_bent_words) (G_law_bent_words : FnOk P w K mg base CX0 3 f_law_bent_words fd_law_bent_words ps_law_bent_words (spOf K sp_law_bent_words)) {f_law_wrong_word : Addr} {fd_law_wrong_word : FuncData} {sp_law_wrong_word : SpT} (g_law_wrong_word : Gd K mg "_law_wrong_word" st_law_wrong_word ps_law_wrong_word f_law_wrong_word fd_law_wrong_word) (G_law_wrong_word : FnOk P w K mg base CX0 3 f_law_wrong_word fd_law_wrong_word ps_law_wrong_word (spOf K sp_law_wrong_word)) {f_read_web_x : Addr} {fd_read_web_x : FuncData} {sx_read_web_x : SpX} (g_read_web_x : Gd K mg "read_web" st_read_web_x ps_read_web_x f_read_web_x fd_read_web_x) (GX_read_web_x : FnOk P w K mg base (L2.CX P w) 4 f_read_web_x fd_read_web_x ps_read_web_x (spOfX K sx_read_web_x)) {f_Web_str : Addr} {fd_Web_str : FuncData} {sp_Web_str : SpT} (g_Web_str : Md K "__str__" "Web.__str__" st_Web_str ps_Web_str f_Web_str fd_Web_str) (G_Web_str : FnOk P w K mg base CX0 1 f_Web_str fd_Web_str ps_Web_str (spOf K sp_Web_str)) (mt_Web_str : Meth K CWeb "__str__" f_Web_str) {f_law_same : Addr} {fd_law_same : FuncData} {sp_law_same : SpT} (g_law_same : Gd K mg "_law_same" st_law_same ps_law_same f_law_same fd_law_same) (G_law_same : FnOk P w K mg base CX0 4 f_law_same fd_law_same ps_law_same (spOf K sp_law_same)) (hc_BadText : Caught K CBadText "at" [([.ref CBadText], "at")]) {fld : Nat → Option Str} {f_law_at : Addr} {fd_law_at : FuncData} (g_law_at : Gd K mg "_law_at" st_law_at ps_law_at f_law_at fd_law_at) (hfl : ∀ C F, fld C = some F → Caught K C F (atl CBadArrow CBadMark CBadText CBadStrike CBadSize CBadPoint CBadNumber CTooMany)) {cl Pl : Addr} (TB : LamX.TabB base mg cl Pl) (lf : LamF K "law" cl Pl) (gl_BadArrow : mg "BadArrow" = some (.ref CBadArrow)) (gl_BadMark : mg "BadMark" = some (.ref CBadMark)) (gl_BadText : mg "BadText" = some (.ref CBadText)) (gl_BadStrike : mg "BadStrike" = some (.ref CBadStrike)) (gl_BadSize : mg "BadSize" = some (.ref CBadSize)) (gl_BadPoint : mg "BadPoint" = some (.ref CBadPoint)) (gl_BadNumber : mg "BadNumber" = some (.ref CBadNumber)) (gl_TooMany : mg "TooMany" = some (.ref CTooMany)) {f : Addr} {A : Around} {outer : List Env} {s : Shared} {H : Hp} {E : XK} (hr : Room 7 (XC P w K mg base N_law "law" st_law f (.ref cl) A outer s H E).A) : PSs (XC P w K mg base N_law "law" st_law f (.ref cl) A outer s H E) (defBody st_law) (liftS K NoX (m_law sp_law_box sp_law_words sp_law_web sp_law_one sp_law_bent_words sp_law_wrong_word sx_read_web_x sp_Web_str sp_law_same CBadText CWeb fld)) := by
  have hu := hu64 hr
  exact (ls_seq (pss_cons (ls_frz (ps_set (i := 1) sc_law.nd rfl (by first | exact Or.inl rfl | exact Or.inr rfl) (lr_callU (dts := []) (fun _ => rfl) (pe_call G_law_box (hr.mono (by omega)) (by rfl) g_law_box.gl g_law_box.fn.kp g_law_box.bd .nil pass0 (la_cons (pa_cons (lr_var (pv 0)) (la_nil pa_nil)))))))
  (ls_seq (pss_cons (ls_forR1 (ws := [2]) (ps_for PassesOwn.never rfl (pi_range1 (by rfl) T.z_range (la_cons (pa_cons (lr_c pe_int) (la_nil pa_nil)))) (lg_slot (pg_name (i := 2) sc_law.nd rfl (by first | exact Or.inl rfl | exact Or.inr rfl)))
  (ls_seq (pss_cons (ls_frz (ps_set (i := 4) sc_law.nd rfl (by first | exact Or.inl rfl | exact Or.inr rfl) (lr_callU (dts := []) (fun _ => rfl) (pe_call G_law_words (hr.mono (by omega)) (by rfl) g_law_words.gl g_law_words.fn.kp g_law_words.bd .nil pass0 (la_cons (pa_cons (lr_callU (dts := []) (fun _ => rfl) (pe_call G_law_web_c (hr.mono (by omega)) (by rfl) g_law_web_c.gl g_law_web_c.fn.kp g_law_web_c.bd .nil pass0 (la_cons (pa_cons (lr_var (pv 1)) (la_cons (pa_cons (lr_c pe_int) (la_cons (pa_cons (lr_c pe_int) (la_nil pa_nil))))))))) (la_nil pa_nil)))))))
  (ls_seq (pss_cons (ls_forR1 (ws := [5]) (ps_for PassesOwn.never rfl (pi_range1 (by rfl) T.z_range (la_cons (pa_cons (lr_callU (dts := []) (fun _ => rfl) (pe_call G_law_one (hr.mono (by omega)) (by rfl) g_law_one.gl g_law_one.fn.kp g_law_one.bd .nil pass0 (la_cons (pa_cons (lr_var (pv 1)) (la_cons (pa_cons (lr_lst (pe_lst (la_cons (pa_cons (lr_c pe_int) (la_cons (pa_cons (lr_c pe_int) (la_cons (pa_cons (lr_c pe_int) (la_cons (pa_cons (lr_c pe_int) (la_cons (pa_cons (lr_c pe_int) (la_nil pa_nil))))))))))))) (la_nil pa_nil))))))) (la_nil pa_nil)))) (lg_slot (pg_name (i := 5) sc_law.nd rfl (by first | exact Or.inl rfl | exact Or.inr rfl)))
  (pss_one (ls_frz (ps_set (i := 4) sc_law.nd rfl (by first | exact Or.inl rfl | exact Or.inr rfl) (lr_callU (dts := []) (fun _ => rfl) (pe_call G_law_bent_words (hr.mono (by omega)) (by rfl) g_law_bent_words.gl g_law_bent_words.fn.kp g_law_bent_words.bd .nil pass0 (la_cons (pa_cons (lr_var (pv 1)) (la_cons (pa_cons (lr_var (pv 4)) (la_nil pa_nil))))))))))))
  (ls_seq (pss_cons (ls_frz (ps_set (i := 6) sc_law.nd rfl (by first | exact Or.inl rfl | exact Or.inr rfl) (lr_callU (dts := []) (fun _ => rfl) (pe_call G_law_wrong_word (hr.mono (by omega)) (by rfl) g_law_wrong_word.gl g_law_wrong_word.fn.kp g_law_wrong_word.bd .nil pass0 (la_cons (pa_cons (lr_var (pv 4)) (la_nil pa_nil)))))))
  (ls_seq (pss_cons (ls_frz (ps_set (i := 7) sc_law.nd rfl (by first | exact Or.inl rfl | exact Or.inr rfl) (lr_c pe_non)))
  (ls_seq (pss_cons (ls_tryF hc_BadText (ps_try_clauses (n := "e") (i := 8) (tb := fun W => liftS K W _) rfl rfl sc_law.nd rfl rfl takes_no (fun W pn xe tk po => (pss_one (ls_frzX (ps_set (i := 7) sc_law.nd rfl (by first | exact Or.inl rfl | exact Or.inr rfl) (lr_strX (pe_callTy (call_strO mt_Web_str G_Web_str g_Web_str.bd (hr.mono (by omega))) (by rfl) T.z_str bt_str (pa_cons (lr_callXW (dts := []) (fun _ => rfl) (pe_callW GX_read_web_x (hr.mono (by omega)) (by rfl) g_read_web_x.gl g_read_web_x.fn.kp g_read_web_x.bd .nil tk (la_cons (pa_cons (lr_var (pv 4)) (la_nil pa_nil))))) pa_nil))))))) (.cons (.one ⟨rfl, gl_BadText, rfl⟩) (fun a oe cls d pn hz hf => pss_one (ps_set (i := 7) sc_law.nd rfl (by first | exact Or.inl rfl | exact Or.inr rfl) (pe_xfA hz hf (pv 8)))) .nil)))
  (pss_one (ls_if (ps_if (lt_not (pt_not (lt_val (pt_val (lr_callU (dts := []) (fun _ => rfl) (pe_call G_law_same (hr.mono (by omega)) (by rfl) g_law_same.gl g_law_same.fn.kp g_law_same.bd .nil pass0 (la_cons (pa_cons (lr_var (pv 7)) (la_cons (pa_cons (lr_if (pe_ifExp (lt_cmp og_isN (pt_cmpR op_isN (lr_var (pv 6)) (lr_c pe_non) (nomark _))) (lr_var (pv 4)) (lr_var (pv 6)))) (la_nil pa_nil)))))))))))
  (pss_one (ls_ret (ps_ret (lr_c pe_bl))))
  (ls_next pss_nil))))))))))))))))
  (ls_seq (pss_cons (ls_set (ps_set (i := 3) sc_law.nd rfl (by first | exact Or.inl rfl | exact Or.inr rfl) (lr_lst (pe_lst (la_cons (pa_cons (lr_at (k := 4) (l := atl CBadArrow CBadMark CBadText CBadStrike CBadSize CBadPoint CBadNumber CTooMany) (x0 := "law") (fld := fld) g_law_at sc_law_at (by rfl) (Or.inl rfl) (fun cdv => by refine at_gives (sg := defScope st_law_at) ?_ ?_ ?_ ?_ ?_ <;> first | rfl | exact (.cons (fun X h1 h2 => .four (named_of h1 h2 (by rfl) gl_BadArrow) (named_of h1 h2 (by rfl) gl_BadMark) (named_of h1 h2 (by rfl) gl_BadText) (named_of h1 h2 (by rfl) gl_BadStrike)) (.cons (fun X h1 h2 => .three (named_of h1 h2 (by rfl) gl_BadSize) (named_of h1 h2 (by rfl) gl_BadPoint) (named_of h1 h2 (by rfl) gl_BadNumber)) (.cons (fun X h1 h2 => .one (named_of h1 h2 (by rfl) gl_TooMany)) .nil)))) hfl TB rfl lf (by rfl) (hr.mono (by omega)) (by rfl) (by rfl) (fun _ _ _ _ _ => by rfl) (fun A outer s H E f cc hr => by have hu := hu64 hr; exact (lr_callX (E := E) (dts := []) (fun _ => rfl) (pe_call GX_read_web_x (hr.mono (by omega)) (by rfl) g_read_web_x.gl g_read_web_x.fn.kp g_read_web_x.bd .nil passL (la_cons (pa_cons (lr_c pe_str) (la_nil pa_nil))))))) (la_nil pa_nil)))))))
  (ls_seq (pss_cons (ls_mut mu_append (ps_expr (pe_bm PySem.F.plainAttrs_list PySem.F.slot_list_append PySem.F.type_list_append mt_append (lp_var (pv 3)) (la_cons (pa_cons (lr_at (k := 4) (l := atl CBadArrow CBadMark CBadText CBadStrike CBadSize CBadPoint CBadNumber CTooMany) (x0 := "law") (fld := fld) g_law_at sc_law_at (by rfl) (Or.inl rfl) (fun cdv => by refine at_gives (sg := defScope st_law_at) ?_ ?_ ?_ ?_ ?_ <;> first | rfl | exact (.cons (fun X h1 h2 => .four (named_of h1 h2 (by rfl) gl_BadArrow) (named_of h1 h2 (by rfl) gl_BadMark) (named_of h1 h2 (by rfl) gl_BadText) (named_of h1 h2 (by rfl) gl_BadStrike)) (.cons (fun X h1 h2 => .three (named_of h1 h2 (by rfl) gl_BadSize) (named_of h1 h2 (by rfl) gl_BadPoint) (named_of h1 h2 (by rfl) gl_BadNumber)) (.cons (fun X h1 h2 => .one (named_of h1 h2 (by rfl) gl_TooMany)) .nil)))) hfl TB rfl lf (by rfl) (hr.mono (by omega)) (by rfl) (by rfl) (fun _ _ _ _ _ => by rfl) (fun A outer s H E f cc hr => by have hu := hu64 hr; exact (lr_callX (E := E) (dts := []) (fun _ => rfl) (pe_call GX_read_web_x (hr.mono (by omega)) (by rfl) g_read_web_x.gl g_read_web_x.fn.kp g_read_web_x.bd .nil passL (la_cons (pa_cons (lr_c pe_str) (la_nil pa_nil))))))) (la_nil pa_nil))))))
  (pss_one (ls_ret (ps_ret (lr_op og_eq (pe_cmpR (op_eqA hu) (lr_var (pv 3)) (lr_lst (pe_lst (la_cons (pa_cons (lr_tup (pe_tup (la_cons (pa_cons (lr_c pe_str) (la_cons (pa_cons (lr_c pe_int) (la_nil pa_nil))))))) (la_cons (pa_cons (lr_tup (pe_tup (la_cons (pa_cons (lr_c pe_str) (la_cons (pa_cons (lr_c pe_int) (la_nil pa_nil))))))) (la_nil pa_nil))))))) (nomark _))))))))))))))
end
end W
namespace W
open PySem L2 HTr
theorem strOk_app {a b : Str} (ha : strOk a = true) (hb : strOk b = true) : strOk (a ++ b) = true := by
  show (a.cps ++ b.cps).all _ = true
  rw [Array.all_append]
  exact Bool.and_eq_true_iff.mpr ⟨ha, hb⟩
theorem strOk_joinS {sep : Str} (hs : strOk sep = true) : ∀ ws : List Str, (∀ w ∈ ws, strOk w = true) → strOk (Str.join sep ws) = true
  | [], _ => (by decide +kernel : strOk Str.empty = true)
  | [x], h => h x (by simp)
  | x :: y :: r, h => by
    show strOk (x ++ sep ++ Str.join sep (y :: r)) = true
    exact strOk_app (strOk_app (h x (by simp)) hs) (strOk_joinS hs (y :: r) fun w hw => h w (List.mem_cons_of_mem _ hw))
theorem strOk_join {sep : Str} (hs : strOk sep = true) (ws : List Str) (h : ∀ w ∈ ws, strOk w = true) : strOk (Txt.join sep ws) = true := by
  show strOk (Builtin.Str.glued sep ws) = true
  rw [StrLaws.glued_eq_join]
  exact strOk_joinS hs ws h
theorem strOk_num {n : Nat} (h : n ≤ 81) : strOk (numS n) = true := by
  have all : ∀ m, m < 82 → strOk (numS m) = true := by decide +kernel
  exact all n (by omega)
theorem strOk_text {w : Wb} (ok : w.ok) : strOk w.text = true := by
  have n81 := ok.n81
  refine strOk_join (by decide +kernel) _ fun x hx => ?_
  simp only [Wb.words, List.mem_cons, List.mem_append, List.mem_map] at hx
  rcases hx with rfl | ⟨y, hy, rfl⟩ | ⟨y, hy, rfl⟩
  · exact strOk_num n81
  · obtain ⟨y1, y2, y3⟩ := ok.aok y hy
    exact strOk_app (strOk_app (strOk_num (by omega)) (strOk_col _ y1)) (strOk_num (by omega))
  · obtain ⟨y1, y2⟩ := ok.mok y hy
    exact strOk_app (strOk_mrk _ y1) (strOk_num (by omega))
theorem bad_none : readW "" = .inl 0 := by
  have e1 : Txt.split "" " " = [("" : Str)] := by decide +kernel
  have e2 : numIn ("" : Str).cps.toList = none := by decide +kernel
  unfold readW
  rw [e1]
  dsimp only
  rw [e2]
theorem bad_82 : readW "82" = .inl 0 := by
  have e1 : Txt.split "82" " " = [("82" : Str)] := by decide +kernel
  have e2 : numIn ("82" : Str).cps.toList = some 82 := by decide +kernel
  unfold readW
  rw [e1]
  dsimp only
  rw [e2]
  rfl
def spLaw : SpT := fun ls G => ∃ xs : List Int, ls = [.fz (.scr xs)] ∧ G (.fz (.bl true)) []
theorem vc_law {C EB : Nat} {fld : Nat → Option Str} (hf : fld EB = some ("at" : Str)) : ∀ ls G, spLaw ls G →
    m_law spBox spLawWords spWeb spOne spBentWords spWrong (spReadWebX C EB) (spWebStr C) (spSame 3) EB C fld (endOf ls G) (start0 N_law.length ls) := by
  rintro ls G ⟨xs, rfl, hG⟩
  have hb : big = 1000000 := rfl
  have hz : big < sizeLine := by decide
  unfold m_law
  refine seq_gen fun k1 hk1 => ?_
  simp [rCallU, -List.map_take, -List.map_drop, cut_map, atI_lit, ixN_lit, fAdd, fI, fI0, sIf, sSet, sIx, sRetV, sRet, sRetN, sNext, sDrop, sAsg, tsAnd, tsOr, tsNot, tsV, rOp, rVar, rC, HTr.rIx, ixL, start0, fEq, eqAtom, strip_pin, strip_at, strip_non, strip_bl, strip_int, strip_str, strip_ftup, strip_flst, strip_fdct, strip_fobj, strip_box, strip_scr, strip_tup, strip_lst, strip_dct, strip_obj, L.tree, L.trees, L.isFz, rCa, fLen, aCons, aNil, fCmp, pVar, endOf, backs, rAndV, rOrV, rNotV, rIf, rChain, rLst, rTup, mkTup, fInStr, fInSeq, fIsN, T.isNon, gSlot, gTupT, gsCons, gsNil, rSl, oNone, oSome, fSl, itemsF_fz, itemsF_fzc, trees_fzc, itemsF_lst, itemsF_tup, itemsF_str, itemsF_scr, itemsFT_tup, itemsFT_lst, itemsFT_str, itemsFT_scr, cut_to, frz_map, frz_cons, frz_nil, rIs, T.ty?, tyIs, rFld, look]
  refine ⟨xs, rfl, fun b => ⟨.inl (.inl rfl), hk1 _ ?_⟩⟩
  clear hk1 k1
  refine seq_gen fun k2 hk2 => ?_
  replace hk2 := Hid.mk hk2
  simp [sForR1, -List.map_take, -List.map_drop, cut_map, atI_lit, ixN_lit, fAdd, fI, fI0, sIf, sSet, sIx, sRetV, sRet, sRetN, sNext, sDrop, sAsg, tsAnd, tsOr, tsNot, tsV, rOp, rVar, rC, HTr.rIx, ixL, start0, fEq, eqAtom, strip_pin, strip_at, strip_non, strip_bl, strip_int, strip_str, strip_ftup, strip_flst, strip_fdct, strip_fobj, strip_box, strip_scr, strip_tup, strip_lst, strip_dct, strip_obj, L.tree, L.trees, L.isFz, rCa, fLen, aCons, aNil, fCmp, pVar, endOf, backs, rAndV, rOrV, rNotV, rIf, rChain, rLst, rTup, mkTup, fInStr, fInSeq, fIsN, T.isNon, gSlot, gTupT, gsCons, gsNil, rSl, oNone, oSome, fSl, itemsF_fz, itemsF_fzc, trees_fzc, itemsF_lst, itemsF_tup, itemsF_str, itemsF_scr, itemsFT_tup, itemsFT_lst, itemsFT_str, itemsFT_scr, cut_to, frz_map, frz_cons, frz_nil, rIs, T.ty?, tyIs, rFld, look]
  refine forR (n := 8) (I := fun _ S => ∃ o2 o3 o4 o5 o6 o7 o8, S = [some (.fz (.scr xs)), some (.fz (.box b)), o2, o3, o4, o5, o6, o7, o8]) ⟨_, _, _, _, _, _, _, rfl⟩ ?_ ?_
  · rintro x S hx ⟨o2, o3, o4, o5, o6, o7, o8, rfl⟩ k hk
    replace hk := Hid.mk hk
    refine ⟨by simp, ?_⟩
    refine seq_gen fun k3 hk3 => ?_
    replace hk3 := Hid.mk hk3
    simp [rCallU, -List.map_take, -List.map_drop, cut_map, atI_lit, ixN_lit, fAdd, fI, fI0, sIf, sSet, sIx, sRetV, sRet, sRetN, sNext, sDrop, sAsg, tsAnd, tsOr, tsNot, tsV, rOp, rVar, rC, HTr.rIx, ixL, start0, fEq, eqAtom, strip_pin, strip_at, strip_non, strip_bl, strip_int, strip_str, strip_ftup, strip_flst, strip_fdct, strip_fobj, strip_box, strip_scr, strip_tup, strip_lst, strip_dct, strip_obj, L.tree, L.trees, L.isFz, rCa, fLen, aCons, aNil, fCmp, pVar, endOf, backs, rAndV, rOrV, rNotV, rIf, rChain, rLst, rTup, mkTup, fInStr, fInSeq, fIsN, T.isNon, gSlot, gTupT, gsCons, gsNil, rSl, oNone, oSome, fSl, itemsF_fz, itemsF_fzc, trees_fzc, itemsF_lst, itemsF_tup, itemsF_str, itemsF_scr, itemsFT_tup, itemsFT_lst, itemsFT_str, itemsFT_scr, cut_to, frz_map, frz_cons, frz_nil, rIs, T.ty?, tyIs, rFld, look]
    refine ⟨b, 0, 13, rfl, by omega, by omega, fun w w0 w1 ok wa wm => ⟨.inl (.inl rfl), ?_⟩⟩
    rw [wb_frz w]
    refine ⟨w, rfl, ok, .inl (.inl rfl), ?_⟩
    have tl : w.text.length ≤ 300 := by
      have h2 : w.words.length = 1 + (w.as.length + w.ms.length) := by simp [Wb.words]; omega
      have := join_le (n := 45) (by omega) (words_len ok)
      exact Nat.le_trans this (by decide)
    refine hk3.h _ ?_
    clear hk3 k3
    generalize w.text = tx0 at tl
    refine seq_gen fun k3 hk3 => ?_
    replace hk3 := Hid.mk hk3
    simp [sForR1, rCallU, -List.map_take, -List.map_drop, cut_map, atI_lit, ixN_lit, fAdd, fI, fI0, sIf, sSet, sIx, sRetV, sRet, sRetN, sNext, sDrop, sAsg, tsAnd, tsOr, tsNot, tsV, rOp, rVar, rC, HTr.rIx, ixL, start0, fEq, eqAtom, strip_pin, strip_at, strip_non, strip_bl, strip_int, strip_str, strip_ftup, strip_flst, strip_fdct, strip_fobj, strip_box, strip_scr, strip_tup, strip_lst, strip_dct, strip_obj, L.tree, L.trees, L.isFz, rCa, fLen, aCons, aNil, fCmp, pVar, endOf, backs, rAndV, rOrV, rNotV, rIf, rChain, rLst, rTup, mkTup, fInStr, fInSeq, fIsN, T.isNon, gSlot, gTupT, gsCons, gsNil, rSl, oNone, oSome, fSl, itemsF_fz, itemsF_fzc, trees_fzc, itemsF_lst, itemsF_tup, itemsF_str, itemsF_scr, itemsFT_tup, itemsFT_lst, itemsFT_str, itemsFT_scr, cut_to, frz_map, frz_cons, frz_nil, rIs, T.ty?, tyIs, rFld, look]
    refine ⟨by decide, one_use (ts := [T.int 0, T.int 1, T.int 1, T.int 1, T.int 2]) (by simp) (by decide) fun t ht => ⟨.inl (.inl rfl), ?_⟩⟩
    obtain ⟨d, hd, rfl⟩ : ∃ d : Nat, d ≤ 2 ∧ t = .int d := by
      simp at ht
      rcases ht with rfl | rfl | rfl
      · exact ⟨0, by omega, rfl⟩
      · exact ⟨1, by omega, rfl⟩
      · exact ⟨2, by omega, rfl⟩
    clear ht
    dsimp only
    refine ⟨by omega, ?_⟩
    have ed : ((d : Nat) : Int).toNat = d := by omega
    rw [ed]
    refine forR (n := d) (I := fun i S => ∃ (tx : Str) (o5 : Option L), tx.length + 10 ≤ 310 * 2 ^ i ∧ S = [some (.fz (.scr xs)), some (.fz (.box b)), some (.fz (.int x)), o3, some (.fz (.str tx)), o5, o6, o7, o8]) ⟨tx0, o5, by simp; omega, rfl⟩ ?_ ?_
    · rintro y S hy ⟨tx, o5, ht, rfl⟩ k hk'
      replace hk' := Hid.mk hk'
      have p2 : 2 ^ y ≤ 4 := by
        rcases (show y = 0 ∨ y = 1 by omega) with rfl | rfl <;> decide
      refine ⟨by simp, ?_⟩
      simp [rCallU, -List.map_take, -List.map_drop, cut_map, atI_lit, ixN_lit, fAdd, fI, fI0, sIf, sSet, sIx, sRetV, sRet, sRetN, sNext, sDrop, sAsg, tsAnd, tsOr, tsNot, tsV, rOp, rVar, rC, HTr.rIx, ixL, start0, fEq, eqAtom, strip_pin, strip_at, strip_non, strip_bl, strip_int, strip_str, strip_ftup, strip_flst, strip_fdct, strip_fobj, strip_box, strip_scr, strip_tup, strip_lst, strip_dct, strip_obj, L.tree, L.trees, L.isFz, rCa, fLen, aCons, aNil, fCmp, pVar, endOf, backs, rAndV, rOrV, rNotV, rIf, rChain, rLst, rTup, mkTup, fInStr, fInSeq, fIsN, T.isNon, gSlot, gTupT, gsCons, gsNil, rSl, oNone, oSome, fSl, itemsF_fz, itemsF_fzc, trees_fzc, itemsF_lst, itemsF_tup, itemsF_str, itemsF_scr, itemsFT_tup, itemsFT_lst, itemsFT_str, itemsFT_scr, cut_to, frz_map, frz_cons, frz_nil, rIs, T.ty?, tyIs, rFld, look]
      refine ⟨b, tx, rfl, by omega, fun z hz => ⟨.inl (.inl rfl), ?_⟩⟩
      exact hk'.h _ ⟨z, _, by rw [Nat.pow_succ]; omega, rfl⟩
    · rintro S ⟨tx, o5, ht, rfl⟩
      have p2 : 2 ^ d ≤ 4 := by
        rcases (show d = 0 ∨ d = 1 ∨ d = 2 by omega) with rfl | rfl | rfl <;> decide
      have tl : tx.length ≤ 2000 := by omega
      clear ht hd ed p2
      refine hk3.h _ ?_
      clear hk3 k3
      refine seq_gen fun k3 hk3 => ?_
      replace hk3 := Hid.mk hk3
      simp [rCallU, -List.map_take, -List.map_drop, cut_map, atI_lit, ixN_lit, fAdd, fI, fI0, sIf, sSet, sIx, sRetV, sRet, sRetN, sNext, sDrop, sAsg, tsAnd, tsOr, tsNot, tsV, rOp, rVar, rC, HTr.rIx, ixL, start0, fEq, eqAtom, strip_pin, strip_at, strip_non, strip_bl, strip_int, strip_str, strip_ftup, strip_flst, strip_fdct, strip_fobj, strip_box, strip_scr, strip_tup, strip_lst, strip_dct, strip_obj, L.tree, L.trees, L.isFz, rCa, fLen, aCons, aNil, fCmp, pVar, endOf, backs, rAndV, rOrV, rNotV, rIf, rChain, rLst, rTup, mkTup, fInStr, fInSeq, fIsN, T.isNon, gSlot, gTupT, gsCons, gsNil, rSl, oNone, oSome, fSl, itemsF_fz, itemsF_fzc, trees_fzc, itemsF_lst, itemsF_tup, itemsF_str, itemsF_scr, itemsFT_tup, itemsFT_lst, itemsFT_str, itemsFT_scr, cut_to, frz_map, frz_cons, frz_nil, rIs, T.ty?, tyIs, rFld, look]
      refine ⟨tx, rfl, by omega, fun i hi => ⟨.inl (.inl rfl), ?_⟩, fun w hw => ⟨.inl (.inl rfl), ?_⟩⟩
      · refine hk3.h _ ?_
        clear hk3 k3
        refine seq_gen fun k3 hk3 => ?_
        replace hk3 := Hid.mk hk3
        simp [true_and, -List.map_take, -List.map_drop, cut_map, atI_lit, ixN_lit, fAdd, fI, fI0, sIf, sSet, sIx, sRetV, sRet, sRetN, sNext, sDrop, sAsg, tsAnd, tsOr, tsNot, tsV, rOp, rVar, rC, HTr.rIx, ixL, start0, fEq, eqAtom, strip_pin, strip_at, strip_non, strip_bl, strip_int, strip_str, strip_ftup, strip_flst, strip_fdct, strip_fobj, strip_box, strip_scr, strip_tup, strip_lst, strip_dct, strip_obj, L.tree, L.trees, L.isFz, rCa, fLen, aCons, aNil, fCmp, pVar, endOf, backs, rAndV, rOrV, rNotV, rIf, rChain, rLst, rTup, mkTup, fInStr, fInSeq, fIsN, T.isNon, gSlot, gTupT, gsCons, gsNil, rSl, oNone, oSome, fSl, itemsF_fz, itemsF_fzc, trees_fzc, itemsF_lst, itemsF_tup, itemsF_str, itemsF_scr, itemsFT_tup, itemsFT_lst, itemsFT_str, itemsFT_scr, cut_to, frz_map, frz_cons, frz_nil, rIs, T.ty?, tyIs, rFld, look]
        refine hk3.h _ ?_
        clear hk3 k3
        refine seq_gen fun k3 hk3 => ?_
        replace hk3 := Hid.mk hk3
        simp [sTryF, sAsgX, rStrX, rCallX, -List.map_take, -List.map_drop, cut_map, atI_lit, ixN_lit, fAdd, fI, fI0, sIf, sSet, sIx, sRetV, sRet, sRetN, sNext, sDrop, sAsg, tsAnd, tsOr, tsNot, tsV, rOp, rVar, rC, HTr.rIx, ixL, start0, fEq, eqAtom, strip_pin, strip_at, strip_non, strip_bl, strip_int, strip_str, strip_ftup, strip_flst, strip_fdct, strip_fobj, strip_box, strip_scr, strip_tup, strip_lst, strip_dct, strip_obj, L.tree, L.trees, L.isFz, rCa, fLen, aCons, aNil, fCmp, pVar, endOf, backs, rAndV, rOrV, rNotV, rIf, rChain, rLst, rTup, mkTup, fInStr, fInSeq, fIsN, T.isNon, gSlot, gTupT, gsCons, gsNil, rSl, oNone, oSome, fSl, itemsF_fz, itemsF_fzc, trees_fzc, itemsF_lst, itemsF_tup, itemsF_str, itemsF_scr, itemsFT_tup, itemsFT_lst, itemsFT_str, itemsFT_scr, cut_to, frz_map, frz_cons, frz_nil, rIs, T.ty?, tyIs, rFld, look]
        refine ⟨tx, rfl, by omega, fun j hj => ⟨rfl, _, rfl, _, rfl, ?_⟩, fun w hw => by rw [hi] at hw; cases hw⟩
        rw [hi] at hj
        cases hj
        refine hk3.h _ ?_
        clear hk3 k3
        simp [rCallU, -List.map_take, -List.map_drop, cut_map, atI_lit, ixN_lit, fAdd, fI, fI0, sIf, sSet, sIx, sRetV, sRet, sRetN, sNext, sDrop, sAsg, tsAnd, tsOr, tsNot, tsV, rOp, rVar, rC, HTr.rIx, ixL, start0, fEq, eqAtom, strip_pin, strip_at, strip_non, strip_bl, strip_int, strip_str, strip_ftup, strip_flst, strip_fdct, strip_fobj, strip_box, strip_scr, strip_tup, strip_lst, strip_dct, strip_obj, L.tree, L.trees, L.isFz, rCa, fLen, aCons, aNil, fCmp, pVar, endOf, backs, rAndV, rOrV, rNotV, rIf, rChain, rLst, rTup, mkTup, fInStr, fInSeq, fIsN, T.isNon, gSlot, gTupT, gsCons, gsNil, rSl, oNone, oSome, fSl, itemsF_fz, itemsF_fzc, trees_fzc, itemsF_lst, itemsF_tup, itemsF_str, itemsF_scr, itemsFT_tup, itemsFT_lst, itemsFT_str, itemsFT_scr, cut_to, frz_map, frz_cons, frz_nil, rIs, T.ty?, tyIs, rFld, look]
        refine same_use trivial ⟨.inl (.inr rfl), ?_⟩
        exact hk.h _ ⟨_, _, _, _, _, _, _, rfl⟩
      · refine hk3.h _ ?_
        clear hk3 k3
        refine seq_gen fun k3 hk3 => ?_
        replace hk3 := Hid.mk hk3
        simp [true_and, -List.map_take, -List.map_drop, cut_map, atI_lit, ixN_lit, fAdd, fI, fI0, sIf, sSet, sIx, sRetV, sRet, sRetN, sNext, sDrop, sAsg, tsAnd, tsOr, tsNot, tsV, rOp, rVar, rC, HTr.rIx, ixL, start0, fEq, eqAtom, strip_pin, strip_at, strip_non, strip_bl, strip_int, strip_str, strip_ftup, strip_flst, strip_fdct, strip_fobj, strip_box, strip_scr, strip_tup, strip_lst, strip_dct, strip_obj, L.tree, L.trees, L.isFz, rCa, fLen, aCons, aNil, fCmp, pVar, endOf, backs, rAndV, rOrV, rNotV, rIf, rChain, rLst, rTup, mkTup, fInStr, fInSeq, fIsN, T.isNon, gSlot, gTupT, gsCons, gsNil, rSl, oNone, oSome, fSl, itemsF_fz, itemsF_fzc, trees_fzc, itemsF_lst, itemsF_tup, itemsF_str, itemsF_scr, itemsFT_tup, itemsFT_lst, itemsFT_str, itemsFT_scr, cut_to, frz_map, frz_cons, frz_nil, rIs, T.ty?, tyIs, rFld, look]
        refine hk3.h _ ?_
        clear hk3 k3
        refine seq_gen fun k3 hk3 => ?_
        replace hk3 := Hid.mk hk3
        simp [sTryF, sAsgX, rStrX, rCallX, -List.map_take, -List.map_drop, cut_map, atI_lit, ixN_lit, fAdd, fI, fI0, sIf, sSet, sIx, sRetV, sRet, sRetN, sNext, sDrop, sAsg, tsAnd, tsOr, tsNot, tsV, rOp, rVar, rC, HTr.rIx, ixL, start0, fEq, eqAtom, strip_pin, strip_at, strip_non, strip_bl, strip_int, strip_str, strip_ftup, strip_flst, strip_fdct, strip_fobj, strip_box, strip_scr, strip_tup, strip_lst, strip_dct, strip_obj, L.tree, L.trees, L.isFz, rCa, fLen, aCons, aNil, fCmp, pVar, endOf, backs, rAndV, rOrV, rNotV, rIf, rChain, rLst, rTup, mkTup, fInStr, fInSeq, fIsN, T.isNon, gSlot, gTupT, gsCons, gsNil, rSl, oNone, oSome, fSl, itemsF_fz, itemsF_fzc, trees_fzc, itemsF_lst, itemsF_tup, itemsF_str, itemsF_scr, itemsFT_tup, itemsFT_lst, itemsFT_str, itemsFT_scr, cut_to, frz_map, frz_cons, frz_nil, rIs, T.ty?, tyIs, rFld, look]
        have no : ∀ j, readW tx ≠ .inl j := fun j z => by rw [hw] at z; cases z
        refine ⟨tx, rfl, by omega, fun j hj => absurd hj (no j), fun w2 hw2 t ht ok => ⟨.inl (.inl rfl), ?_⟩⟩
        obtain ⟨ts, rfl⟩ := webT_obj ht
        obtain ⟨ok2, e2⟩ := readW_ok hw2
        refine ⟨rfl, w2, _, rfl, ht, ok, .inl (.inl rfl), _, rfl, ?_⟩
        rw [e2]
        have so : strOk tx = true := by rw [← e2]; exact strOk_text ok
        refine hk3.h _ ?_
        clear hk3 k3
        simp [rCallU, -List.map_take, -List.map_drop, cut_map, atI_lit, ixN_lit, fAdd, fI, fI0, sIf, sSet, sIx, sRetV, sRet, sRetN, sNext, sDrop, sAsg, tsAnd, tsOr, tsNot, tsV, rOp, rVar, rC, HTr.rIx, ixL, start0, fEq, eqAtom, strip_pin, strip_at, strip_non, strip_bl, strip_int, strip_str, strip_ftup, strip_flst, strip_fdct, strip_fobj, strip_box, strip_scr, strip_tup, strip_lst, strip_dct, strip_obj, L.tree, L.trees, L.isFz, rCa, fLen, aCons, aNil, fCmp, pVar, endOf, backs, rAndV, rOrV, rNotV, rIf, rChain, rLst, rTup, mkTup, fInStr, fInSeq, fIsN, T.isNon, gSlot, gTupT, gsCons, gsNil, rSl, oNone, oSome, fSl, itemsF_fz, itemsF_fzc, trees_fzc, itemsF_lst, itemsF_tup, itemsF_str, itemsF_scr, itemsFT_tup, itemsFT_lst, itemsFT_str, itemsFT_scr, cut_to, frz_map, frz_cons, frz_nil, rIs, T.ty?, tyIs, rFld, look]
        refine same_use so ⟨.inl (.inr rfl), ?_⟩
        exact hk.h _ ⟨_, _, _, _, _, _, _, rfl⟩
  · rintro S ⟨o2, o3, o4, o5, o6, o7, o8, rfl⟩
    refine hk2.h _ ?_
    clear hk2 k2
    refine seq_gen fun k2 hk2 => ?_
    replace hk2 := Hid.mk hk2
    simp [rLam, rCallX, -List.map_take, -List.map_drop, cut_map, atI_lit, ixN_lit, fAdd, fI, fI0, sIf, sSet, sIx, sRetV, sRet, sRetN, sNext, sDrop, sAsg, tsAnd, tsOr, tsNot, tsV, rOp, rVar, rC, HTr.rIx, ixL, start0, fEq, eqAtom, strip_pin, strip_at, strip_non, strip_bl, strip_int, strip_str, strip_ftup, strip_flst, strip_fdct, strip_fobj, strip_box, strip_scr, strip_tup, strip_lst, strip_dct, strip_obj, L.tree, L.trees, L.isFz, rCa, fLen, aCons, aNil, fCmp, pVar, endOf, backs, rAndV, rOrV, rNotV, rIf, rChain, rLst, rTup, mkTup, fInStr, fInSeq, fIsN, T.isNon, gSlot, gTupT, gsCons, gsNil, rSl, oNone, oSome, fSl, itemsF_fz, itemsF_fzc, trees_fzc, itemsF_lst, itemsF_tup, itemsF_str, itemsF_scr, itemsFT_tup, itemsFT_lst, itemsFT_str, itemsFT_scr, cut_to, frz_map, frz_cons, frz_nil, rIs, T.ty?, tyIs, rFld, look]
    have bad : ∀ x : Str, x.length ≤ 4000 → readW x = .inl 0 → ∀ (G : L → List L → Prop) (GX : Nat → List (Str × V) → Prop), GX EB [("at", .int 0), ("word", .str "BadText")] → spReadWebX C EB [L.fz (T.str x)] G GX := fun x hx hr G GX g =>
      ⟨x, rfl, hx, fun i hi => by rw [hr] at hi; cases hi; exact g, fun w hw => by rw [hr] at hw; cases hw⟩
    refine bad _ (by decide) bad_none _ _ ⟨"at", hf, _, rfl, _, rfl, _, rfl, _, rfl, by decide, ?_⟩
    refine hk2.h _ ?_
    clear hk2 k2
    refine seq_gen fun k2 hk2 => ?_
    replace hk2 := Hid.mk hk2
    simp [rLam, rCallX, sMut, -List.map_take, -List.map_drop, cut_map, atI_lit, ixN_lit, fAdd, fI, fI0, sIf, sSet, sIx, sRetV, sRet, sRetN, sNext, sDrop, sAsg, tsAnd, tsOr, tsNot, tsV, rOp, rVar, rC, HTr.rIx, ixL, start0, fEq, eqAtom, strip_pin, strip_at, strip_non, strip_bl, strip_int, strip_str, strip_ftup, strip_flst, strip_fdct, strip_fobj, strip_box, strip_scr, strip_tup, strip_lst, strip_dct, strip_obj, L.tree, L.trees, L.isFz, rCa, fLen, aCons, aNil, fCmp, pVar, endOf, backs, rAndV, rOrV, rNotV, rIf, rChain, rLst, rTup, mkTup, fInStr, fInSeq, fIsN, T.isNon, gSlot, gTupT, gsCons, gsNil, rSl, oNone, oSome, fSl, itemsF_fz, itemsF_fzc, trees_fzc, itemsF_lst, itemsF_tup, itemsF_str, itemsF_scr, itemsFT_tup, itemsFT_lst, itemsFT_str, itemsFT_scr, cut_to, frz_map, frz_cons, frz_nil, rIs, T.ty?, tyIs, rFld, look]
    refine ⟨rfl, bad _ (by decide) bad_82 _ _ ⟨"at", hf, _, rfl, _, rfl, _, rfl, _, rfl, ?_⟩⟩
    simp [fAppend, -List.map_take, -List.map_drop, cut_map, atI_lit, ixN_lit, fAdd, fI, fI0, sIf, sSet, sIx, sRetV, sRet, sRetN, sNext, sDrop, sAsg, tsAnd, tsOr, tsNot, tsV, rOp, rVar, rC, HTr.rIx, ixL, start0, fEq, eqAtom, strip_pin, strip_at, strip_non, strip_bl, strip_int, strip_str, strip_ftup, strip_flst, strip_fdct, strip_fobj, strip_box, strip_scr, strip_tup, strip_lst, strip_dct, strip_obj, L.tree, L.trees, L.isFz, rCa, fLen, aCons, aNil, fCmp, pVar, endOf, backs, rAndV, rOrV, rNotV, rIf, rChain, rLst, rTup, mkTup, fInStr, fInSeq, fIsN, T.isNon, gSlot, gTupT, gsCons, gsNil, rSl, oNone, oSome, fSl, itemsF_fz, itemsF_fzc, trees_fzc, itemsF_lst, itemsF_tup, itemsF_str, itemsF_scr, itemsFT_tup, itemsFT_lst, itemsFT_str, itemsFT_scr, cut_to, frz_map, frz_cons, frz_nil, rIs, T.ty?, tyIs, rFld, look]
    refine ⟨by decide, hk2.h _ ?_⟩
    clear hk2 k2
    simp [true_and, -List.map_take, -List.map_drop, cut_map, atI_lit, ixN_lit, fAdd, fI, fI0, sIf, sSet, sIx, sRetV, sRet, sRetN, sNext, sDrop, sAsg, tsAnd, tsOr, tsNot, tsV, rOp, rVar, rC, HTr.rIx, ixL, start0, fEq, eqAtom, strip_pin, strip_at, strip_non, strip_bl, strip_int, strip_str, strip_ftup, strip_flst, strip_fdct, strip_fobj, strip_box, strip_scr, strip_tup, strip_lst, strip_dct, strip_obj, L.tree, L.trees, L.isFz, rCa, fLen, aCons, aNil, fCmp, pVar, endOf, backs, rAndV, rOrV, rNotV, rIf, rChain, rLst, rTup, mkTup, fInStr, fInSeq, fIsN, T.isNon, gSlot, gTupT, gsCons, gsNil, rSl, oNone, oSome, fSl, itemsF_fz, itemsF_fzc, trees_fzc, itemsF_lst, itemsF_tup, itemsF_str, itemsF_scr, itemsFT_tup, itemsFT_lst, itemsFT_str, itemsFT_scr, cut_to, frz_map, frz_cons, frz_nil, rIs, T.ty?, tyIs, rFld, look]
    have ed : (T.lst [T.tup [T.str (Str.ofString "BadText"), T.int 0], T.tup [T.str (Str.ofString "BadText"), T.int 0]]).data = some (.list [.tuple [.str "BadText", .int 0], .tuple [.str "BadText", .int 0]]) := rfl
    rw [ed]
    have ev : (PyData.list [.tuple [.str "BadText", .int 0], .tuple [.str "BadText", .int 0]]).eqv (.list [.tuple [.str "BadText", .int 0], .tuple [.str "BadText", .int 0]]) = true := by decide +kernel
    refine ⟨by decide, by decide +kernel, by decide +kernel, ?_⟩
    rw [ev]
    exact hG
end W
set_option maxHeartbeats 0
namespace W
open PySem L2 HTr
theorem kbrel_Web_1_arrows_marks {vs mz zs : List V} {us mv ws : List Value} (h1 : Vals vs us) (h2 : Vals mz mv) (h3 : Vals zs ws) : Vals (gp_Web_1_arrows_marks vs mz zs) (gp_Web_1_arrows_marks us mv ws) := by
  obtain ⟨P, rfl, rfl⟩ := vals_pairs h1
  obtain ⟨Q, rfl, rfl⟩ := vals_pairs h2
  obtain ⟨R, rfl, rfl⟩ := vals_pairs h3
  have e : ∀ {β : Type} (f : VP → β), gp_Web_1_arrows_marks (P.map f) (Q.map f) (R.map f) = (gp_Web_1_arrows_marks P Q R).map f := by
    intro β f
    rcases P with _ | ⟨_, _ | ⟨_, _ | ⟨_, _⟩⟩⟩ <;> rcases Q with _ | ⟨_, _⟩ <;> rcases R with _ | ⟨_, _ | ⟨_, _ | ⟨_, _⟩⟩⟩ <;> rfl
  rw [e, e]
  exact vals_of _
theorem facts {P : Program} {w : World} {K : PySem.W.Frag} {h : Heap} {mg : Str → Option Value} {f : Addr} (X : K.In h) (G : h.Ns mainGlobals mg) (hfa : mg ("law" : Str) = some (.ref f)) (c : He.SaysD fa fn K) (cx : ex K = true) :
    ∃ fd : FuncData, (∀ (s : Shared) (v : Value), BindsTo s fd ⟨[v], []⟩ [("_law_script", v)]) ∧ ∀ base : Heap, K.In base → base.Ns mainGlobals mg → (∀ y ∈ lamNames, ∀ c P, PySem.W.tabIn K y = some (c, P) → LamX.TabB base mg c P) → FnOk P w K mg base CX0 8 f fd ["_law_script"] (spOf K spLaw) := by
  obtain ⟨fd_is_colour, F_is_colour⟩ := c.def_ 0 (d := dd_is_colour) rfl
  obtain ⟨fd_is_mark, F_is_mark⟩ := c.def_ 1 (d := dd_is_mark) rfl
  obtain ⟨fd_Web_str, F_Web_str⟩ := c.def_ 2 (d := dd_Web_str) rfl
  obtain ⟨fd_number_in, F_number_in⟩ := c.def_ 3 (d := dd_number_in) rfl
  obtain ⟨fd_law_box, F_law_box⟩ := c.def_ 4 (d := dd_law_box) rfl
  obtain ⟨fd_law_take, F_law_take⟩ := c.def_ 5 (d := dd_law_take) rfl
  obtain ⟨fd_law_unlike, F_law_unlike⟩ := c.def_ 6 (d := dd_law_unlike) rfl
  obtain ⟨fd_law_words, F_law_words⟩ := c.def_ 7 (d := dd_law_words) rfl
  obtain ⟨fd_law_number_in, F_law_number_in⟩ := c.def_ 8 (d := dd_law_number_in) rfl
  obtain ⟨fd_Web_init, F_Web_init⟩ := c.def_ 9 (d := dd_Web_init) rfl
  obtain ⟨fd_tie_in, F_tie_in⟩ := c.def_ 10 (d := dd_tie_in) rfl
  obtain ⟨fd_law_one, F_law_one⟩ := c.def_ 11 (d := dd_law_one) rfl
  obtain ⟨fd_law_tie_in, F_law_tie_in⟩ := c.def_ 12 (d := dd_law_tie_in) rfl
  obtain ⟨fd_law_hue, F_law_hue⟩ := c.def_ 13 (d := dd_law_hue) rfl
  obtain ⟨fd_law_sign, F_law_sign⟩ := c.def_ 14 (d := dd_law_sign) rfl
  obtain ⟨fd_law_wrong_word, F_law_wrong_word⟩ := c.def_ 15 (d := dd_law_wrong_word) rfl
  obtain ⟨fd_law_bent_words, F_law_bent_words⟩ := c.def_ 16 (d := dd_law_bent_words) rfl
  obtain ⟨fd_read_web_x, F_read_web_x⟩ := c.def_ 17 (d := dd_read_web_x) rfl
  obtain ⟨fd_law_same, F_law_same⟩ := c.def_ 18 (d := dd_law_same) rfl
  obtain ⟨fd_law_arrow, F_law_arrow⟩ := c.def_ 19 (d := dd_law_arrow) rfl
  obtain ⟨fd_law_web_c, F_law_web_c⟩ := c.def_ 20 (d := dd_law_web_c) rfl
  obtain ⟨fd_law, F_law⟩ := c.def_ 21 (d := dd_law) rfl
  obtain ⟨fd_BadText_init, F_BadText_init⟩ := c.def_ 22 (d := dd_BadText_init) rfl
  obtain ⟨fd_law_at, F_law_at⟩ := c.def_ 23 (d := dd_law_at) rfl
  have e := hfa.symm.trans (He.glo_ok X G (c.fact 25 (f := .glo "law") rfl))
  cases e
  have T : Txt K mg (He.ga K "BadArrow") (He.ga K "BadMark") (He.ga K "BadNumber") (He.ga K "BadPoint") (He.ga K "BadSize") (He.ga K "BadStrike") (He.ga K "BadText") (He.ga K "TooMany") (He.ga K "Web") := { c_Web := He.cls_ok (c.fact 0 rfl), g_COLOURS := (He.str_ok X G (c.fact 1 rfl)).elim fun t h => ⟨_, h, t, rfl⟩, g_FIGURES := (He.str_ok X G (c.fact 2 rfl)).elim fun t h => ⟨_, h, t, rfl⟩, g_MARKS := (He.str_ok X G (c.fact 3 rfl)).elim fun t h => ⟨_, h, t, rfl⟩, g_MOST_POINTS := (He.int_ok X G (c.fact 4 rfl)).elim fun t h => ⟨_, h, t, rfl⟩, n_Web_arrow_list := He.noat_ok (c.fact 5 rfl), n_Web_backward := He.noat_ok (c.fact 6 rfl), n_Web_many := He.noat_ok (c.fact 7 rfl), n_Web_mark_list := He.noat_ok (c.fact 8 rfl), n_Web_onward := He.noat_ok (c.fact 9 rfl), n_Web_spots_there := He.noat_ok (c.fact 10 rfl), z_all := He.free_ok X G (c.fact 11 rfl), z_bool := He.free_ok X G (c.fact 12 rfl), z_enumerate := He.free_ok X G (c.fact 13 rfl), z_int := He.free_ok X G (c.fact 14 rfl), z_isinstance := He.free_ok X G (c.fact 15 rfl), z_len := He.free_ok X G (c.fact 16 rfl), z_list := He.free_ok X G (c.fact 17 rfl), z_max := He.free_ok X G (c.fact 18 rfl), z_min := He.free_ok X G (c.fact 19 rfl), z_range := He.free_ok X G (c.fact 20 rfl), z_sorted := He.free_ok X G (c.fact 21 rfl), z_str := He.free_ok X G (c.fact 22 rfl), z_tuple := He.free_ok X G (c.fact 23 rfl), z_zip := He.free_ok X G (c.fact 24 rfl) }
  have g_is_colour : Gd K mg "is_colour" st_is_colour ps_is_colour _ fd_is_colour := ⟨F_is_colour, F_is_colour.bindsN fun _ _ _ _ _ _ us hl => match us, hl with | [_], _ => rfl, He.glo_ok X G (c.fact 26 (f := .glo "is_colour") rfl)⟩
  have g_is_mark : Gd K mg "is_mark" st_is_mark ps_is_mark _ fd_is_mark := ⟨F_is_mark, F_is_mark.bindsN fun _ _ _ _ _ _ us hl => match us, hl with | [_], _ => rfl, He.glo_ok X G (c.fact 27 (f := .glo "is_mark") rfl)⟩
  have g_Web_str : Md K "__str__" "Web.__str__" st_Web_str ps_Web_str _ fd_Web_str := ⟨F_Web_str, F_Web_str.bindsN fun _ _ _ _ _ _ us hl => match us, hl with | [_], _ => rfl⟩
  have g_number_in : Gd K mg "number_in" st_number_in ps_number_in _ fd_number_in := ⟨F_number_in, F_number_in.bindsN fun _ _ _ _ _ _ us hl => match us, hl with | [_], _ => rfl, He.glo_ok X G (c.fact 28 (f := .glo "number_in") rfl)⟩
  have g_law_box : Gd K mg "_law_box" st_law_box ps_law_box _ fd_law_box := ⟨F_law_box, F_law_box.bindsN fun _ _ _ _ _ _ us hl => match us, hl with | [_], _ => rfl, He.glo_ok X G (c.fact 29 (f := .glo "_law_box") rfl)⟩
  have g_law_take : Gd K mg "_law_take" st_law_take ps_law_take _ fd_law_take := ⟨F_law_take, F_law_take.bindsN fun _ _ _ _ _ _ us hl => match us, hl with | [_, _], _ => rfl, He.glo_ok X G (c.fact 30 (f := .glo "_law_take") rfl)⟩
  have g_law_unlike : Gd K mg "_law_unlike" st_law_unlike ps_law_unlike _ fd_law_unlike := ⟨F_law_unlike, F_law_unlike.bindsN fun _ _ _ _ _ _ us hl => match us, hl with | [_], _ => rfl, He.glo_ok X G (c.fact 31 (f := .glo "_law_unlike") rfl)⟩
  have g_law_words : Gd K mg "_law_words" st_law_words ps_law_words _ fd_law_words := ⟨F_law_words, F_law_words.bindsN fun _ _ _ _ _ _ us hl => match us, hl with | [_], _ => rfl, He.glo_ok X G (c.fact 32 (f := .glo "_law_words") rfl)⟩
  have g_law_number_in : Gd K mg "_law_number_in" st_law_number_in ps_law_number_in _ fd_law_number_in := ⟨F_law_number_in, F_law_number_in.bindsN fun _ _ _ _ _ _ us hl => match us, hl with | [_], _ => rfl, He.glo_ok X G (c.fact 33 (f := .glo "_law_number_in") rfl)⟩
  have g_tie_in : Gd K mg "tie_in" st_tie_in ps_tie_in _ fd_tie_in := ⟨F_tie_in, F_tie_in.bindsN fun _ _ _ _ _ _ us hl => match us, hl with | [_, _], _ => rfl, He.glo_ok X G (c.fact 34 (f := .glo "tie_in") rfl)⟩
  have g_law_one : Gd K mg "_law_one" st_law_one ps_law_one _ fd_law_one := ⟨F_law_one, F_law_one.bindsN fun _ _ _ _ _ _ us hl => match us, hl with | [_, _], _ => rfl, He.glo_ok X G (c.fact 35 (f := .glo "_law_one") rfl)⟩
  have g_law_tie_in : Gd K mg "_law_tie_in" st_law_tie_in ps_law_tie_in _ fd_law_tie_in := ⟨F_law_tie_in, F_law_tie_in.bindsN fun _ _ _ _ _ _ us hl => match us, hl with | [_, _], _ => rfl, He.glo_ok X G (c.fact 36 (f := .glo "_law_tie_in") rfl)⟩
  have g_law_hue : Gd K mg "_law_hue" st_law_hue ps_law_hue _ fd_law_hue := ⟨F_law_hue, F_law_hue.bindsN fun _ _ _ _ _ _ us hl => match us, hl with | [_], _ => rfl, He.glo_ok X G (c.fact 37 (f := .glo "_law_hue") rfl)⟩
  have g_law_sign : Gd K mg "_law_sign" st_law_sign ps_law_sign _ fd_law_sign := ⟨F_law_sign, F_law_sign.bindsN fun _ _ _ _ _ _ us hl => match us, hl with | [_], _ => rfl, He.glo_ok X G (c.fact 38 (f := .glo "_law_sign") rfl)⟩
  have g_law_wrong_word : Gd K mg "_law_wrong_word" st_law_wrong_word ps_law_wrong_word _ fd_law_wrong_word := ⟨F_law_wrong_word, F_law_wrong_word.bindsN fun _ _ _ _ _ _ us hl => match us, hl with | [_], _ => rfl, He.glo_ok X G (c.fact 39 (f := .glo "_law_wrong_word") rfl)⟩
  have g_law_bent_words : Gd K mg "_law_bent_words" st_law_bent_words ps_law_bent_words _ fd_law_bent_words := ⟨F_law_bent_words, F_law_bent_words.bindsN fun _ _ _ _ _ _ us hl => match us, hl with | [_, _], _ => rfl, He.glo_ok X G (c.fact 40 (f := .glo "_law_bent_words") rfl)⟩
  have g_read_web_x : Gd K mg "read_web" st_read_web_x ps_read_web_x _ fd_read_web_x := ⟨F_read_web_x, F_read_web_x.bindsN fun _ _ _ _ _ _ us hl => match us, hl with | [_], _ => rfl, He.glo_ok X G (c.fact 41 (f := .glo "read_web") rfl)⟩
  have g_law_same : Gd K mg "_law_same" st_law_same ps_law_same _ fd_law_same := ⟨F_law_same, F_law_same.bindsN fun _ _ _ _ _ _ us hl => match us, hl with | [_, _], _ => rfl, He.glo_ok X G (c.fact 42 (f := .glo "_law_same") rfl)⟩
  have g_law_arrow : Gd K mg "_law_arrow" st_law_arrow ps_law_arrow _ fd_law_arrow := ⟨F_law_arrow, F_law_arrow.bindsN fun _ _ _ _ _ _ us hl => match us, hl with | [_, _], _ => rfl, He.glo_ok X G (c.fact 43 (f := .glo "_law_arrow") rfl)⟩
  have g_law_web_c : Gd K mg "_law_web" st_law_web_c ps_law_web_c _ fd_law_web_c := ⟨F_law_web_c, F_law_web_c.bindsN fun _ _ _ _ _ _ us hl => match us, hl with | [_, _, _], _ => rfl, He.glo_ok X G (c.fact 44 (f := .glo "_law_web") rfl)⟩
  have g_law_at : Gd K mg "_law_at" st_law_at ps_law_at _ fd_law_at := ⟨F_law_at, F_law_at.bindsN fun _ _ _ _ _ _ us hl => match us, hl with | [_], _ => rfl, He.glo_ok X G (c.fact 45 (f := .glo "_law_at") rfl)⟩
  have hf_BadText : fldOf K (He.ga K "BadText") (atl (He.ga K "BadArrow") (He.ga K "BadMark") (He.ga K "BadText") (He.ga K "BadStrike") (He.ga K "BadSize") (He.ga K "BadPoint") (He.ga K "BadNumber") (He.ga K "TooMany")) = some "at" := of_decide_eq_true (List.all_eq_true.mp cx _ (List.mem_of_getElem? (i := 3) rfl))
  have gl_BadArrow := He.glo_ok X G (c.fact 46 (f := .glo "BadArrow") rfl)
  have gl_BadMark := He.glo_ok X G (c.fact 47 (f := .glo "BadMark") rfl)
  have gl_BadText := He.glo_ok X G (c.fact 48 (f := .glo "BadText") rfl)
  have gl_BadStrike := He.glo_ok X G (c.fact 49 (f := .glo "BadStrike") rfl)
  have gl_BadSize := He.glo_ok X G (c.fact 50 (f := .glo "BadSize") rfl)
  have gl_BadPoint := He.glo_ok X G (c.fact 51 (f := .glo "BadPoint") rfl)
  have gl_BadNumber := He.glo_ok X G (c.fact 52 (f := .glo "BadNumber") rfl)
  have gl_TooMany := He.glo_ok X G (c.fact 53 (f := .glo "TooMany") rfl)
  obtain ⟨⟨cl_law, Pl_law⟩, eT_law⟩ := Option.isSome_iff_exists.mp (List.all_eq_true.mp cx _ (List.mem_of_getElem? (i := 4) rfl))
  have lf_law := lamF_of (ns := ["law"]) (List.all_eq_true.mp cx _ (List.mem_of_getElem? (i := 2) rfl)) (y := "law") (by decide) eT_law
  obtain ⟨_, _, _, _, _, _, _, _, _, _, _, lk_law, _⟩ := F_law.ex
  have cd_law : fd_law.code = .ref cl_law := code_of eT_law (He.eqO_ok (c.fact 25 (f := .glo "law") rfl)) lk_law
  have b_BadText_init : Binds K fd_BadText_init ["self", "at"] [] := F_BadText_init.bindsN fun _ _ _ _ _ _ us hl => match us, hl with | [_, _], _ => rfl
  have eb_BadText : errB K (He.ga K "BadText") "at" = true := (List.all_eq_true.mp cx _ (List.mem_of_getElem? (i := 5) rfl))
  have hc_BadText : Caught K (He.ga K "BadText") "at" [([.ref (He.ga K "BadText")], "at")] := fldOf_ok (of_decide_eq_true (List.all_eq_true.mp cx _ (List.mem_of_getElem? (i := 6) rfl)))
  have mt_Web_str := He.meth_ok (c.fact 54 (f := .meth "Web" "__str__") rfl)
  have mk_Web := He.mkr_ok (c.fact 55 (f := .mkr "Web") rfl)
  have gl_Web := He.glo_ok X G (c.fact 56 (f := .glo "Web") rfl)
  have kbe_Web_1_arrows_marks := F_Web_init.kbinds0 (ps := ps_Web_init) 2 ["arrows", "marks"] [] (fun us mv ws => gp_Web_1_arrows_marks us mv ws) (by simp [dd_Web_init, He.DefD.kws]) (by simp [dd_Web_init, He.DefD.kws, He.Dv.v])
    (fun {vs mz zs us mv ws} r1 r2 r3 => kbrel_Web_1_arrows_marks r1 r2 r3)
    (fun D doc pm an cdv ct us mv ws h1 h2 h3 => match us, mv, ws, h1, h2, h3 with | [_, _], [], [_, _], _, _, _ => rfl)
  refine ⟨fd_law, fun s v => FunD.bindsA (ps := ps_law) F_law (fun _ _ _ _ _ _ us hl => match us, hl with | [_], _ => rfl) s [v] rfl, fun base _ _ tbs => ?_⟩
  have er_BadText : Err P w K mg base (He.ga K "BadText") "BadText" "at" := err_mk eb_BadText gl_BadText (fun T => err_ok (st := st_BadText_init) F_BadText_init sc_BadText_init T ⟨.inl rfl, .inl rfl⟩ ⟨by decide, by decide⟩ ⟨_, _, _, _, _, _, _, _, _, rfl⟩) b_BadText_init
  have G_is_colour : FnOk P w K mg base CX0 1 (He.fAd K dd_is_colour.at_) fd_is_colour ps_is_colour (spOf K spColG) := fun_okD F_is_colour sc_is_colour (by (intro ls G h; repeat (first | (obtain ⟨h, _⟩ := h; subst h; rfl) | obtain ⟨_, h⟩ := h))) (fun cdv A outer s H E hr => d_is_colour T  hr) vc_colG
  have Gw_is_colour : FnOk P w K mg base CX0 1 (He.fAd K dd_is_colour.at_) fd_is_colour ps_is_colour (spOf K spCol) := fnok_imp G_is_colour colG_weak
  have G_is_mark : FnOk P w K mg base CX0 1 (He.fAd K dd_is_mark.at_) fd_is_mark ps_is_mark (spOf K spMrkG) := fun_okD F_is_mark sc_is_mark (by (intro ls G h; repeat (first | (obtain ⟨h, _⟩ := h; subst h; rfl) | obtain ⟨_, h⟩ := h))) (fun cdv A outer s H E hr => d_is_mark T  hr) vc_mrkG
  have Gw_is_mark : FnOk P w K mg base CX0 1 (He.fAd K dd_is_mark.at_) fd_is_mark ps_is_mark (spOf K spMrk) := fnok_imp G_is_mark mrkG_weak
  have G_Web_str : FnOk P w K mg base CX0 1 (He.fAd K dd_Web_str.at_) fd_Web_str ps_Web_str (spOf K (spWebStr (He.ga K "Web"))) := fun_okD F_Web_str sc_Web_str (by (intro ls G h; repeat (first | (obtain ⟨h, _⟩ := h; subst h; rfl) | obtain ⟨_, h⟩ := h))) (fun cdv A outer s H E hr => d_Web_str T  hr) (vc_web_str (He.ga K "Web"))
  have G_number_in : FnOk P w K mg base CX0 1 (He.fAd K dd_number_in.at_) fd_number_in ps_number_in (spOf K spNumIn) := fun_okD F_number_in sc_number_in (by (intro ls G h; repeat (first | (obtain ⟨h, _⟩ := h; subst h; rfl) | obtain ⟨_, h⟩ := h))) (fun cdv A outer s H E hr => d_number_in T  hr) vc_num_in
  have G0_law_box : FnOk P w K mg base CX0 1 (He.fAd K dd_law_box.at_) fd_law_box ps_law_box (spOf K spBox1) := fun_okD F_law_box sc_law_box (by (intro ls G h; repeat (first | (obtain ⟨h, _⟩ := h; subst h; rfl) | obtain ⟨_, h⟩ := h))) (fun cdv A outer s H E hr => d_law_box T  hr) vc_box
  have G_law_box := box_ok G0_law_box
  have G0_law_take : FnOk P w K mg base CX0 1 (He.fAd K dd_law_take.at_) fd_law_take ps_law_take (spOf K spTake1) := fun_okD F_law_take sc_law_take (by (intro ls G h; repeat (first | (obtain ⟨h, _⟩ := h; subst h; rfl) | obtain ⟨_, h⟩ := h))) (fun cdv A outer s H E hr => d_law_take T  hr) vc_take
  have G_law_take := take_ok G0_law_take rfl
  have G_law_unlike : FnOk P w K mg base CX0 1 (He.fAd K dd_law_unlike.at_) fd_law_unlike ps_law_unlike (spOf K spUnlike) := fun_okD F_law_unlike sc_law_unlike (by (intro ls G h; repeat (first | (obtain ⟨h, _⟩ := h; subst h; rfl) | obtain ⟨_, h⟩ := h))) (fun cdv A outer s H E hr => d_law_unlike T  hr) vc_unlike
  have G_law_words : FnOk P w K mg base CX0 1 (He.fAd K dd_law_words.at_) fd_law_words ps_law_words (spOf K spLawWords) := fun_okD F_law_words sc_law_words (by (intro ls G h; repeat (first | (obtain ⟨h, _⟩ := h; subst h; rfl) | obtain ⟨_, h⟩ := h))) (fun cdv A outer s H E hr => d_law_words T  hr) vc_law_words
  have G_law_number_in : FnOk P w K mg base CX0 1 (He.fAd K dd_law_number_in.at_) fd_law_number_in ps_law_number_in (spOf K spLawNumIn) := fun_okD F_law_number_in sc_law_number_in (by (intro ls G h; repeat (first | (obtain ⟨h, _⟩ := h; subst h; rfl) | obtain ⟨_, h⟩ := h))) (fun cdv A outer s H E hr => d_law_number_in T  hr) vc_law_num_in
  have G_Web_init : FnOk P w K mg base CX0 2 (He.fAd K dd_Web_init.at_) fd_Web_init ps_Web_init (spOf K (spInit (He.ga K "Web"))) := fun_okD F_Web_init sc_Web_init (by (intro ls G h; repeat (first | (obtain ⟨h, _⟩ := h; subst h; rfl) | obtain ⟨_, h⟩ := h))) (fun cdv A outer s H E hr => d_Web_init T g_is_colour Gw_is_colour g_is_mark Gw_is_mark hr) (vc_init (He.ga K "Web"))
  have G_tie_in : FnOk P w K mg base CX0 2 (He.fAd K dd_tie_in.at_) fd_tie_in ps_tie_in (spOf K spTieIn) := fun_okD F_tie_in sc_tie_in (by (intro ls G h; repeat (first | (obtain ⟨h, _⟩ := h; subst h; rfl) | obtain ⟨_, h⟩ := h))) (fun cdv A outer s H E hr => d_tie_in T g_number_in G_number_in g_is_colour G_is_colour hr) vc_tie_in
  have G_law_one : FnOk P w K mg base CX0 2 (He.fAd K dd_law_one.at_) fd_law_one ps_law_one (spOf K spOne) := fun_okD F_law_one sc_law_one (by (intro ls G h; repeat (first | (obtain ⟨h, _⟩ := h; subst h; rfl) | obtain ⟨_, h⟩ := h))) (fun cdv A outer s H E hr => d_law_one T g_law_take G_law_take hr) vc_one
  have G_law_tie_in : FnOk P w K mg base CX0 2 (He.fAd K dd_law_tie_in.at_) fd_law_tie_in ps_law_tie_in (spOf K spLawTieIn) := fun_okD F_law_tie_in sc_law_tie_in (by (intro ls G h; repeat (first | (obtain ⟨h, _⟩ := h; subst h; rfl) | obtain ⟨_, h⟩ := h))) (fun cdv A outer s H E hr => d_law_tie_in T g_law_number_in G_law_number_in hr) vc_law_tie_in
  have G_law_hue : FnOk P w K mg base CX0 3 (He.fAd K dd_law_hue.at_) fd_law_hue ps_law_hue (spOf K spHue) := fun_okD F_law_hue sc_law_hue (by (intro ls G h; repeat (first | (obtain ⟨h, _⟩ := h; subst h; rfl) | obtain ⟨_, h⟩ := h))) (fun cdv A outer s H E hr => d_law_hue T g_law_one G_law_one hr) vc_hue
  have G_law_sign : FnOk P w K mg base CX0 3 (He.fAd K dd_law_sign.at_) fd_law_sign ps_law_sign (spOf K spSign) := fun_okD F_law_sign sc_law_sign (by (intro ls G h; repeat (first | (obtain ⟨h, _⟩ := h; subst h; rfl) | obtain ⟨_, h⟩ := h))) (fun cdv A outer s H E hr => d_law_sign T g_law_one G_law_one hr) vc_sign
  have G_law_wrong_word : FnOk P w K mg base CX0 3 (He.fAd K dd_law_wrong_word.at_) fd_law_wrong_word ps_law_wrong_word (spOf K spWrong) := fun_okD F_law_wrong_word sc_law_wrong_word (by (intro ls G h; repeat (first | (obtain ⟨h, _⟩ := h; subst h; rfl) | obtain ⟨_, h⟩ := h))) (fun cdv A outer s H E hr => d_law_wrong_word T g_law_number_in G_law_number_in g_law_tie_in G_law_tie_in hr) vc_wrong
  have G_law_bent_words : FnOk P w K mg base CX0 3 (He.fAd K dd_law_bent_words.at_) fd_law_bent_words ps_law_bent_words (spOf K spBentWords) := fun_okD F_law_bent_words sc_law_bent_words (by (intro ls G h; repeat (first | (obtain ⟨h, _⟩ := h; subst h; rfl) | obtain ⟨_, h⟩ := h))) (fun cdv A outer s H E hr => d_law_bent_words T g_law_take G_law_take g_law_one G_law_one hr) vc_bent_words
  have G_read_web_x : FnOk P w K mg base (L2.CX P w) 4 (He.fAd K dd_read_web_x.at_) fd_read_web_x ps_read_web_x (spOfX K (spReadWebX (He.ga K "Web") (He.ga K "BadText"))) := fun_okX F_read_web_x sc_read_web_x (by (intro ls G GX h; repeat (first | (obtain ⟨h, _⟩ := h; subst h; rfl) | obtain ⟨_, h⟩ := h))) (fun cdv A outer s H E hr => d_read_web_x T g_number_in G_number_in g_tie_in G_tie_in G_Web_init mk_Web gl_Web kbe_Web_1_arrows_marks er_BadText hr) (vc_read_web (He.ga K "Web") (He.ga K "BadText"))
  have Gc_read_web_x := fnok_calm G_read_web_x
  have R_law_same_0 : FnOk P w K mg base CX0 0 (He.fAd K dd_law_same.at_) fd_law_same ps_law_same (spOf K (spSub 0)) := fnok_false 0 _ _ _
  have R_law_same_1 : FnOk P w K mg base CX0 1 (He.fAd K dd_law_same.at_) fd_law_same ps_law_same (spOf K (spSub 1)) := fun_okD F_law_same sc_law_same (by (intro ls G h; repeat (first | (obtain ⟨h, _⟩ := h; subst h; rfl) | obtain ⟨_, h⟩ := h))) (fun cdv A outer s H E hr => d_law_same T g_law_same R_law_same_0 hr) (vc_same 0)
  have R_law_same_2 : FnOk P w K mg base CX0 2 (He.fAd K dd_law_same.at_) fd_law_same ps_law_same (spOf K (spSub 2)) := fun_okD F_law_same sc_law_same (by (intro ls G h; repeat (first | (obtain ⟨h, _⟩ := h; subst h; rfl) | obtain ⟨_, h⟩ := h))) (fun cdv A outer s H E hr => d_law_same T g_law_same R_law_same_1 hr) (vc_same 1)
  have R_law_same_3 : FnOk P w K mg base CX0 3 (He.fAd K dd_law_same.at_) fd_law_same ps_law_same (spOf K (spSub 3)) := fun_okD F_law_same sc_law_same (by (intro ls G h; repeat (first | (obtain ⟨h, _⟩ := h; subst h; rfl) | obtain ⟨_, h⟩ := h))) (fun cdv A outer s H E hr => d_law_same T g_law_same R_law_same_2 hr) (vc_same 2)
  have R_law_same_4 : FnOk P w K mg base CX0 4 (He.fAd K dd_law_same.at_) fd_law_same ps_law_same (spOf K (spSub 4)) := fun_okD F_law_same sc_law_same (by (intro ls G h; repeat (first | (obtain ⟨h, _⟩ := h; subst h; rfl) | obtain ⟨_, h⟩ := h))) (fun cdv A outer s H E hr => d_law_same T g_law_same R_law_same_3 hr) (vc_same 3)
  have G_law_same : FnOk P w K mg base CX0 4 (He.fAd K dd_law_same.at_) fd_law_same ps_law_same (spOf K (spSame 3)) := R_law_same_4
  have G_law_arrow : FnOk P w K mg base CX0 4 (He.fAd K dd_law_arrow.at_) fd_law_arrow ps_law_arrow (spOf K spArrow) := fun_okD F_law_arrow sc_law_arrow (by (intro ls G h; repeat (first | (obtain ⟨h, _⟩ := h; subst h; rfl) | obtain ⟨_, h⟩ := h))) (fun cdv A outer s H E hr => d_law_arrow T g_law_hue G_law_hue g_law_take G_law_take hr) vc_arrow
  have G_law_web_c : FnOk P w K mg base CX0 5 (He.fAd K dd_law_web_c.at_) fd_law_web_c ps_law_web_c (spOf K spWeb) := fun_okD F_law_web_c sc_law_web_c (by (intro ls G h; repeat (first | (obtain ⟨h, _⟩ := h; subst h; rfl) | obtain ⟨_, h⟩ := h))) (fun cdv A outer s H E hr => d_law_web_c T g_law_take G_law_take g_law_one G_law_one g_law_arrow G_law_arrow g_law_sign G_law_sign g_law_unlike G_law_unlike hr) vc_law_web
  have G_law : FnOk P w K mg base CX0 8 (He.fAd K dd_law.at_) fd_law ps_law (spOf K spLaw) := fun_okL F_law cd_law sc_law (by (intro ls G h; repeat (first | (obtain ⟨h, _⟩ := h; subst h; rfl) | obtain ⟨_, h⟩ := h))) (fun A outer s H E hr => d_law T g_law_box G_law_box g_law_words G_law_words g_law_web_c G_law_web_c g_law_one G_law_one g_law_bent_words G_law_bent_words g_law_wrong_word G_law_wrong_word g_read_web_x G_read_web_x g_Web_str G_Web_str mt_Web_str g_law_same G_law_same hc_BadText (fld := fun C => fldOf K C (atl (He.ga K "BadArrow") (He.ga K "BadMark") (He.ga K "BadText") (He.ga K "BadStrike") (He.ga K "BadSize") (He.ga K "BadPoint") (He.ga K "BadNumber") (He.ga K "TooMany"))) g_law_at (fun C F h => fldOf_ok h) (tbs "law" (by decide) cl_law Pl_law eT_law) lf_law gl_BadArrow gl_BadMark gl_BadText gl_BadStrike gl_BadSize gl_BadPoint gl_BadNumber gl_TooMany hr) (vc_law hf_BadText)
  exact G_law
end W
open PySem PySem.W PySem.Calls PyProof.Rows
theorem PySem.Challenge.cw_wardweb_k05_texts_of_no_web_holds : PySem.Challenge.rw_wardweb_k05_texts_of_no_web.Holds := by
  w_on; o_law
  refine HandSHeadRun.head_any (r := OpenLaw.row PySem.Challenge.rw_wardweb_k05_texts_of_no_web) (q := view (OpenLaw.row PySem.Challenge.rw_wardweb_k05_texts_of_no_web).prog [38]) (H := W.hk) (ob := W.ob) (M := 9000) (loose := W.loose) (d := HandSHeadRun.topDef (OpenLaw.row PySem.Challenge.rw_wardweb_k05_texts_of_no_web).prog 38) (kwd := []) W.ob_eq
    (by kernel_rfl) (fun s => by kernel_rfl) W.run (by kernel_rfl) (by kernel_rfl) (by kernel_rfl) (by rfl) (by first | assumption | decide +kernel) (by decide +kernel) ⟨rfl, rfl, rfl, rfl, rfl, by decide +kernel⟩ ?hw ?hc
  case hw => w_witness2
  case hc =>
    refine HTr.walk_lam (l := PySem.Challenge.rw_wardweb_k05_texts_of_no_web) (n := 63) (k := 8) (x := "_law_script") (ns := ["law"]) rfl (by decide) (by kernel_rfl) ⟨rfl, by decide, by decide⟩ (by kernel_rfl) ?F
    intro w mg fa h Y G hmg0
    obtain ⟨K, KX, c, cx⟩ := Y
    have hmg : mg ("law" : PySem.Str) = some (.ref fa) := by
      have e : (HandSHeadRun.topDef (OpenLaw.row PySem.Challenge.rw_wardweb_k05_texts_of_no_web).prog 38).name = ("law" : PySem.Str) := by kernel_rfl
      rw [← e]
      exact hmg0
    obtain ⟨fd, hb, hF⟩ := W.facts (P := (PySem.Challenge.rw_wardweb_k05_texts_of_no_web).prog) (w := w) KX G hmg c cx
    exact ⟨K, fd, HTr.spOf K HTr.spLaw, KX, List.all_eq_true.mp cx _ (List.mem_of_getElem? (i := 2) rfl), hb, fun H a ns t0 hS => HTr.law_start t0 hS, hF⟩
