import PyProof.Rows.All
import Wide.All
import OpenK.AllK
import Wide.FinOn
import PySem.Challenge.RW_groupdeeds_k16_whole_nets
import KE.SortData
import KE.KDictKeyed
import KE.KDictWalk
import KE.KeyNested
import HandS.ForMost
import HandS.AnyAll
import HandS.IsInst
import HandS.Deep
import HandS.Star
import HandS.TupAny
import HandS.Conv
import HandS.Flow
import HandS.Style
import HandS.Walk
import HandS.Wide
import KE.GoesMore
import KE.GoesEnum
import KE.GoesZip
import HandS.Defaults
import HandS.GenList
import HandS.DictComp
import KE.KDictDisplayH
import KE.KDictSum
import KE.KDictPairs
import HandS.SetFor
import HandS.Strs
import HandS.TupMul
import PyProof.Rows.SetFrom
import KE.KRevSl
import HandS.HeadHook4
import HandS.HeadWalk
import HandS.Head2
set_option Elab.async false
set_option linter.all false
set_option maxRecDepth 100000
/-! Ga -/
set_option maxHeartbeats 4000000
/-! Ga: pure data D, how a value of the abstract heap reads as data, states, the judgements. -/
namespace GD
open PySem L2
inductive D where
  | non | bl (b : Bool) | int (i : Int) | tup (l : List D) | lst (l : List D) | dI (l : List (Int × D)) | dT (l : List (D × D)) | row
/-- the draws' row without its script -/
structure Rw where
  i : Int
  s : Int
  r : Int
  deriving DecidableEq
/-- what is fixed: the program, the world, the text, the row's address, the script's, the script, the tables of code objects -/
structure GC where
  P : Program
  w : World
  K : PySem.W.Frag
  ro : Addr
  sc : Addr
  ns : List Int
  tabs : List Addr
def isCont : D → Bool
  | .lst _ => true
  | .dI _ => true
  | .dT _ => true
  | _ => false
mutual
def nk : D → NestedKey
  | .non => .none
  | .bl b => .num (if b = true then 1 else 0)
  | .int i => .num i
  | .tup l => .tup (nks l)
  | .lst _ => .none
  | .dI _ => .none
  | .dT _ => .none
  | .row => .none
def nks : List D → List NestedKey
  | [] => []
  | d :: r => nk d :: nks r
end
mutual
/-- may stand within a key -/
def keyD : D → Bool
  | .non => true
  | .bl _ => true
  | .int _ => true
  | .tup l => keysD l
  | .lst _ => false
  | .dI _ => false
  | .dT _ => false
  | .row => false
def keysD : List D → Bool
  | [] => true
  | d :: r => keyD d && keysD r
end
/-- a key: a tuple -/
def keyOk (d : D) : Bool := match d with
  | .tup l => keysD l && decide ((nk d).depth ≤ 8)
  | _ => false
/-- a dict whose keys are tuples: its entries (key, the key's address, value), with its record -/
abbrev DE := Obj × List (NestedKey × Addr × V)
def DO (G : GC) (a : Addr) (es : DE) : HO := .ext fun h =>
  es.2.length ≤ sizeLine ∧ (a == sysModules) = false ∧ ∃ xs : List (NestedKey × Addr × Value),
    Paired (fun (p : NestedKey × Addr × V) (q : NestedKey × Addr × Value) => p.1 = q.1 ∧ p.2.1 = q.2.1 ∧ RelV p.2.2 q.2.2) es.2 xs ∧
    ∃ E ep, h.get? a = some es.1 ∧ es.1.ExactDict ∧ es.1.data = .dict E ep ∧ E.toList = xs.map (entryOfKey (nestedKind G.P G.w)) ∧ (xs.map (·.1)).Nodup
abbrev AS := Addr → Prop
mutual
/-- the value v reads as d; lists and dicts within stand at addresses of N -/
def Rep (G : GC) (N : AS) (H : Hp) : V → D → Prop
  | v, .non => v = .non
  | v, .bl b => v = .bl b
  | v, .int i => v = .int i
  | v, .row => v = .ref G.ro
  | v, .tup l => ∃ a vs, v = .ref a ∧ H a = some (.tup vs) ∧ RepL G N H vs l
  | v, .lst l => ∃ a vs, v = .ref a ∧ N a ∧ a ≠ G.ro ∧ H a = some (.lst vs) ∧ RepL G N H vs l
  | v, .dI l => ∃ a ks, v = .ref a ∧ N a ∧ a ≠ G.ro ∧ H a = some (.dK ks) ∧ RepI G N H ks l
  | v, .dT l => ∃ a es, v = .ref a ∧ N a ∧ a ≠ G.ro ∧ H a = some (DO G a es) ∧ RepT G N H es.2 l
def RepL (G : GC) (N : AS) (H : Hp) : List V → List D → Prop
  | vs, [] => vs = []
  | vs, d :: r => ∃ v t, vs = v :: t ∧ Rep G N H v d ∧ RepL G N H t r
def RepI (G : GC) (N : AS) (H : Hp) : List (Key × V) → List (Int × D) → Prop
  | ks, [] => ks = []
  | ks, (i, d) :: r => ∃ v t, ks = (Sum.inl i, v) :: t ∧ Rep G N H v d ∧ RepI G N H t r
def RepT (G : GC) (N : AS) (H : Hp) : List (NestedKey × Addr × V) → List (D × D) → Prop
  | es, [] => es = []
  | es, (k, d) :: r => ∃ a v t, es = (nk k, a, v) :: t ∧ keyOk k = true ∧ Rep G N H (.ref a) k ∧ Rep G N H v d ∧ RepT G N H t r
end
/-- what stands stays, but the row and the tables -/
structure Ext (G : GC) (H H' : Hp) : Prop where
  keep : ∀ a o, H a = some o → a ≠ G.ro → (∀ ps, o ≠ .tbl ps) → H' a = some o
  tups : ∀ a xs, H a = some (.tup xs) → H' a = some (.tup xs)
  live : ∀ a, H' a = none → H a = none
theorem Ext.refl (G : GC) (H : Hp) : Ext G H H := ⟨fun _ _ h _ _ => h, fun _ _ h => h, fun _ h => h⟩
theorem Ext.trans {G : GC} {H H1 H2 : Hp} (a : Ext G H H1) (b : Ext G H1 H2) : Ext G H H2 :=
  ⟨fun x o h n t => b.keep x o (a.keep x o h n t) n t, fun x xs h => b.tups x xs (a.tups x xs h), fun x h => a.live x (b.live x h)⟩
theorem Ext.new {G : GC} {H : Hp} {p : Addr} {o : HO} (h : H p = none) : Ext G H (upd H p o) :=
  ⟨fun a u e _ _ => by rw [upd_ne (ne_of_none e h)]; exact e, fun a xs e => by rw [upd_ne (ne_of_none e h)]; exact e, fun a e => by
    by_cases ha : a = p
    · rw [ha]; exact h
    · rw [upd_ne ha] at e; exact e⟩
/-- what Rep leans on: tuples, and containers at addresses of N -/
structure Fix (G : GC) (N : AS) (H H' : Hp) : Prop where
  tups : ∀ a xs, H a = some (.tup xs) → H' a = some (.tup xs)
  cons : ∀ a o, N a → a ≠ G.ro → H a = some o → (∀ ps, o ≠ .tbl ps) → H' a = some o
theorem Ext.fix {G : GC} {N : AS} {H H' : Hp} (e : Ext G H H') : Fix G N H H' := ⟨e.tups, fun a o _ n h t => e.keep a o h n t⟩
section
variable {G : GC} {N N' : AS} {H H' : Hp}
mutual
theorem Rep.fix (e : Fix G N H H') (hN : ∀ a, N a → N' a) : ∀ (d : D) (v : V), Rep G N H v d → Rep G N' H' v d
  | .non, v, h => by simp only [Rep] at h ⊢; exact h
  | .bl b, v, h => by simp only [Rep] at h ⊢; exact h
  | .int i, v, h => by simp only [Rep] at h ⊢; exact h
  | .row, v, h => by simp only [Rep] at h ⊢; exact h
  | .tup l, v, h => by
    simp only [Rep] at h ⊢
    obtain ⟨a, vs, e1, e2, h⟩ := h
    exact ⟨a, vs, e1, e.tups a vs e2, RepL.fix e hN l vs h⟩
  | .lst l, v, h => by
    simp only [Rep] at h ⊢
    obtain ⟨a, vs, e1, n, r, e2, h⟩ := h
    exact ⟨a, vs, e1, hN a n, r, e.cons a _ n r e2 (fun ps z => by cases z), RepL.fix e hN l vs h⟩
  | .dI l, v, h => by
    simp only [Rep] at h ⊢
    obtain ⟨a, vs, e1, n, r, e2, h⟩ := h
    exact ⟨a, vs, e1, hN a n, r, e.cons a _ n r e2 (fun ps z => by cases z), RepI.fix e hN l vs h⟩
  | .dT l, v, h => by
    simp only [Rep] at h ⊢
    obtain ⟨a, vs, e1, n, r, e2, h⟩ := h
    exact ⟨a, vs, e1, hN a n, r, e.cons a _ n r e2 (fun ps z => by unfold DO at z; cases z), RepT.fix e hN l vs.2 h⟩
theorem RepL.fix (e : Fix G N H H') (hN : ∀ a, N a → N' a) : ∀ (l : List D) (vs : List V), RepL G N H vs l → RepL G N' H' vs l
  | [], vs, h => by simp only [RepL] at h ⊢; exact h
  | d :: r, vs, h => by
    simp only [RepL] at h ⊢
    obtain ⟨v, t, e1, h1, h2⟩ := h
    exact ⟨v, t, e1, Rep.fix e hN d v h1, RepL.fix e hN r t h2⟩
theorem RepI.fix (e : Fix G N H H') (hN : ∀ a, N a → N' a) : ∀ (l : List (Int × D)) (vs : List (Key × V)), RepI G N H vs l → RepI G N' H' vs l
  | [], vs, h => by simp only [RepI] at h ⊢; exact h
  | (i, d) :: r, vs, h => by
    simp only [RepI] at h ⊢
    obtain ⟨v, t, e1, h1, h2⟩ := h
    exact ⟨v, t, e1, Rep.fix e hN d v h1, RepI.fix e hN r t h2⟩
theorem RepT.fix (e : Fix G N H H') (hN : ∀ a, N a → N' a) : ∀ (l : List (D × D)) (vs : List (NestedKey × Addr × V)), RepT G N H vs l → RepT G N' H' vs l
  | [], vs, h => by simp only [RepT] at h ⊢; exact h
  | (k, d) :: r, vs, h => by
    simp only [RepT] at h ⊢
    obtain ⟨a, v, t, e1, q1, h0, h1, h2⟩ := h
    exact ⟨a, v, t, e1, q1, Rep.fix e hN k _ h0, Rep.fix e hN d v h1, RepT.fix e hN r t h2⟩
end
theorem Rep.ext (e : Ext G H H') {d : D} {v : V} (h : Rep G N H v d) : Rep G N H' v d := Rep.fix e.fix (fun _ z => z) d v h
theorem Rep.mono (hN : ∀ a, N a → N' a) {d : D} {v : V} (h : Rep G N H v d) : Rep G N' H v d := Rep.fix (Ext.refl G H).fix hN d v h
theorem RepL.ext (e : Ext G H H') {d : List D} {v : List V} (h : RepL G N H v d) : RepL G N H' v d := RepL.fix e.fix (fun _ z => z) d v h
theorem RepL.mono (hN : ∀ a, N a → N' a) {d : List D} {v : List V} (h : RepL G N H v d) : RepL G N' H v d := RepL.fix (Ext.refl G H).fix hN d v h
theorem RepL.len : ∀ {l : List D} {vs : List V}, RepL G N H vs l → vs.length = l.length
  | [], vs, h => by simp only [RepL] at h; rw [h]; rfl
  | d :: r, vs, h => by
    simp only [RepL] at h
    obtain ⟨v, t, e1, _, h2⟩ := h
    rw [e1, List.length_cons, List.length_cons, RepL.len h2]
theorem RepL.nil : RepL G N H [] [] := by simp only [RepL]
theorem RepL.cons {v : V} {t : List V} {d : D} {r : List D} (h : Rep G N H v d) (h2 : RepL G N H t r) : RepL G N H (v :: t) (d :: r) := by
  simp only [RepL]
  exact ⟨v, t, rfl, h, h2⟩
theorem RepL.append : ∀ {l m : List D} {vs us : List V}, RepL G N H vs l → RepL G N H us m → RepL G N H (vs ++ us) (l ++ m)
  | [], m, vs, us, h, h2 => by simp only [RepL] at h; rw [h]; exact h2
  | d :: r, m, vs, us, h, h2 => by
    simp only [RepL] at h
    obtain ⟨v, t, e1, h0, h1⟩ := h
    rw [e1]
    exact RepL.cons h0 (RepL.append h1 h2)
theorem RepL.get : ∀ {l : List D} {vs : List V} {i : Nat} {v : V}, RepL G N H vs l → vs[i]? = some v → ∃ d, l[i]? = some d ∧ Rep G N H v d
  | [], vs, i, v, h, e => by simp only [RepL] at h; rw [h] at e; simp at e
  | d :: r, vs, i, v, h, e => by
    simp only [RepL] at h
    obtain ⟨x, t, e1, h0, h1⟩ := h
    subst e1
    cases i with
    | zero => simp at e; subst e; exact ⟨d, by simp, h0⟩
    | succ i => simp at e ⊢; exact RepL.get h1 e
theorem RepL.getD : ∀ {l : List D} {vs : List V} {i : Nat} {d : D}, RepL G N H vs l → l[i]? = some d → ∃ v, vs[i]? = some v ∧ Rep G N H v d
  | [], vs, i, v, h, e => by simp at e
  | d :: r, vs, i, v, h, e => by
    simp only [RepL] at h
    obtain ⟨x, t, e1, h0, h1⟩ := h
    subst e1
    cases i with
    | zero => simp at e; subst e; exact ⟨x, by simp, h0⟩
    | succ i => simp at e ⊢; exact RepL.getD h1 e
theorem RepL.take : ∀ {l : List D} {vs : List V} (n : Nat), RepL G N H vs l → RepL G N H (vs.take n) (l.take n)
  | l, vs, 0, h => by simp only [List.take_zero]; exact RepL.nil
  | [], vs, n + 1, h => by simp only [RepL] at h; rw [h]; simp only [List.take_nil]; exact RepL.nil
  | d :: r, vs, n + 1, h => by
    simp only [RepL] at h
    obtain ⟨x, t, e1, h0, h1⟩ := h
    subst e1
    simp only [List.take_succ_cons]
    exact RepL.cons h0 (RepL.take n h1)
theorem RepL.drop : ∀ {l : List D} {vs : List V} (n : Nat), RepL G N H vs l → RepL G N H (vs.drop n) (l.drop n)
  | l, vs, 0, h => h
  | [], vs, n + 1, h => by simp only [RepL] at h; rw [h]; simp only [List.drop_nil]; exact RepL.nil
  | d :: r, vs, n + 1, h => by
    simp only [RepL] at h
    obtain ⟨x, t, e1, h0, h1⟩ := h
    subst e1
    simp only [List.drop_succ_cons]
    exact RepL.drop n h1
theorem RepL.reverse : ∀ {l : List D} {vs : List V}, RepL G N H vs l → RepL G N H vs.reverse l.reverse
  | [], vs, h => by simp only [RepL] at h; rw [h]; exact RepL.nil
  | d :: r, vs, h => by
    simp only [RepL] at h
    obtain ⟨x, t, e1, h0, h1⟩ := h
    subst e1
    rw [List.reverse_cons, List.reverse_cons]
    exact RepL.append (RepL.reverse h1) (RepL.cons h0 RepL.nil)
end
/-- only what is there is leaned on -/
abbrev Th (N : AS) (H : Hp) : AS := fun a => N a ∧ H a ≠ none
section
variable {G : GC} {N : AS} {H : Hp}
mutual
theorem Rep.there : ∀ (d : D) (v : V), Rep G N H v d → Rep G (Th N H) H v d
  | .non, v, h => by simp only [Rep] at h ⊢; exact h
  | .bl b, v, h => by simp only [Rep] at h ⊢; exact h
  | .int i, v, h => by simp only [Rep] at h ⊢; exact h
  | .row, v, h => by simp only [Rep] at h ⊢; exact h
  | .tup l, v, h => by
    simp only [Rep] at h ⊢
    obtain ⟨a, vs, e1, e2, h⟩ := h
    exact ⟨a, vs, e1, e2, RepL.there l vs h⟩
  | .lst l, v, h => by
    simp only [Rep] at h ⊢
    obtain ⟨a, vs, e1, n, r, e2, h⟩ := h
    exact ⟨a, vs, e1, ⟨n, by rw [e2]; simp⟩, r, e2, RepL.there l vs h⟩
  | .dI l, v, h => by
    simp only [Rep] at h ⊢
    obtain ⟨a, vs, e1, n, r, e2, h⟩ := h
    exact ⟨a, vs, e1, ⟨n, by rw [e2]; simp⟩, r, e2, RepI.there l vs h⟩
  | .dT l, v, h => by
    simp only [Rep] at h ⊢
    obtain ⟨a, vs, e1, n, r, e2, h⟩ := h
    exact ⟨a, vs, e1, ⟨n, by rw [e2]; simp⟩, r, e2, RepT.there l vs.2 h⟩
theorem RepL.there : ∀ (l : List D) (vs : List V), RepL G N H vs l → RepL G (Th N H) H vs l
  | [], vs, h => by simp only [RepL] at h ⊢; exact h
  | d :: r, vs, h => by
    simp only [RepL] at h ⊢
    obtain ⟨v, t, e1, h1, h2⟩ := h
    exact ⟨v, t, e1, Rep.there d v h1, RepL.there r t h2⟩
theorem RepI.there : ∀ (l : List (Int × D)) (vs : List (Key × V)), RepI G N H vs l → RepI G (Th N H) H vs l
  | [], vs, h => by simp only [RepI] at h ⊢; exact h
  | (i, d) :: r, vs, h => by
    simp only [RepI] at h ⊢
    obtain ⟨v, t, e1, h1, h2⟩ := h
    exact ⟨v, t, e1, Rep.there d v h1, RepI.there r t h2⟩
theorem RepT.there : ∀ (l : List (D × D)) (vs : List (NestedKey × Addr × V)), RepT G N H vs l → RepT G (Th N H) H vs l
  | [], vs, h => by simp only [RepT] at h ⊢; exact h
  | (k, d) :: r, vs, h => by
    simp only [RepT] at h ⊢
    obtain ⟨a, v, t, e1, q1, h0, h1, h2⟩ := h
    exact ⟨a, v, t, e1, q1, Rep.there k _ h0, Rep.there d v h1, RepT.there r t h2⟩
end
end
/-- the container at v reads as d; its items stand in N (its own address need not) -/
def Top (G : GC) (N : AS) (H : Hp) (v : V) : D → Prop
  | .lst l => ∃ a vs, v = .ref a ∧ a ≠ G.ro ∧ H a = some (.lst vs) ∧ RepL G N H vs l
  | .dI l => ∃ a ks, v = .ref a ∧ a ≠ G.ro ∧ H a = some (.dK ks) ∧ RepI G N H ks l
  | .dT l => ∃ a es, v = .ref a ∧ a ≠ G.ro ∧ H a = some (DO G a es) ∧ RepT G N H es.2 l
  | d => Rep G N H v d
section
variable {G : GC} {N N' : AS} {H H' : Hp} {v : V} {d : D}
theorem Rep.top (h : Rep G N H v d) : Top G N H v d := by
  cases d with
  | lst l => simp only [Rep] at h; obtain ⟨a, vs, e1, _, r, e2, h⟩ := h; exact ⟨a, vs, e1, r, e2, h⟩
  | dI l => simp only [Rep] at h; obtain ⟨a, vs, e1, _, r, e2, h⟩ := h; exact ⟨a, vs, e1, r, e2, h⟩
  | dT l => simp only [Rep] at h; obtain ⟨a, vs, e1, _, r, e2, h⟩ := h; exact ⟨a, vs, e1, r, e2, h⟩
  | _ => exact h
theorem Top.fix (e : Ext G H H') (hN : ∀ a, N a → N' a) (h : Top G N H v d) : Top G N' H' v d := by
  cases d with
  | lst l => obtain ⟨a, vs, e1, r, e2, h⟩ := h; exact ⟨a, vs, e1, r, e.keep a _ e2 r (fun ps z => by cases z), RepL.fix e.fix hN l vs h⟩
  | dI l => obtain ⟨a, vs, e1, r, e2, h⟩ := h; exact ⟨a, vs, e1, r, e.keep a _ e2 r (fun ps z => by cases z), RepI.fix e.fix hN l vs h⟩
  | dT l => obtain ⟨a, vs, e1, r, e2, h⟩ := h; exact ⟨a, vs, e1, r, e.keep a _ e2 r (fun ps z => by unfold DO at z; cases z), RepT.fix e.fix hN l vs.2 h⟩
  | _ => exact Rep.fix e.fix hN _ _ h
theorem Top.ext (e : Ext G H H') (h : Top G N H v d) : Top G N H' v d := h.fix e fun _ z => z
theorem Top.mono (hN : ∀ a, N a → N' a) (h : Top G N H v d) : Top G N' H v d := h.fix (Ext.refl G H) hN
/-- a container's reading, its own address within -/
theorem Top.rep (h : Top G N H v d) (hN : ∀ a, N a → N' a) (ha : ∀ a, v = .ref a → isCont d = true → N' a) : Rep G N' H v d := by
  cases d with
  | lst l => simp only [Rep]; obtain ⟨a, vs, e1, r, e2, h⟩ := h; exact ⟨a, vs, e1, ha a e1 rfl, r, e2, h.mono hN⟩
  | dI l => simp only [Rep]; obtain ⟨a, vs, e1, r, e2, h⟩ := h; exact ⟨a, vs, e1, ha a e1 rfl, r, e2, RepI.fix (Ext.refl G H).fix hN l vs h⟩
  | dT l => simp only [Rep]; obtain ⟨a, vs, e1, r, e2, h⟩ := h; exact ⟨a, vs, e1, ha a e1 rfl, r, e2, RepT.fix (Ext.refl G H).fix hN l vs.2 h⟩
  | _ => exact Rep.mono hN h
end
/-! ### states -/
inductive SV where
  | dat (d : D)
  | own (d : D)
abbrev Sl := List (Option SV)
structure MS where
  sl : Sl
  rw : Rw
inductive Kd where
  | dat | new | bor
  deriving DecidableEq
structure EV where
  d : D
  k : Kd
abbrev ME := MS → Option (EV × Rw)
abbrev MA := MS → Option (List EV × Rw)
abbrev MT := MS → Option (Bool × Rw)
def RowAt (G : GC) (H : Hp) (r : Rw) : Prop :=
  H G.ro = some (.lst [.ref G.sc, .int r.i, .int r.s, .int r.r]) ∧ SqL G.K H G.sc (G.ns.map V.int) ∧ ∀ P ∈ G.tabs, GxR.TabG H P
theorem RowAt.live {G : GC} {H : Hp} {r : Rw} (h : RowAt G H r) : H G.ro ≠ none := by rw [h.1]; simp
/-- the slots read as sl: data in N; what is one's own stands apart from N, at addresses of Y -/
structure SlOk (G : GC) (Y N : AS) (sg : St) (sl : Sl) (H : Hp) : Prop where
  dat : ∀ (i : Nat) (d : D), sl[i]? = some (some (.dat d)) → ∃ v, sg[i]? = some (some v) ∧ Rep G N H v d
  own : ∀ (i : Nat) (d : D), sl[i]? = some (some (.own d)) → ∃ a, sg[i]? = some (some (.ref a)) ∧ Y a ∧ ¬ N a ∧ isCont d = true ∧ Top G N H (.ref a) d
  sep : ∀ (i j : Nat) (d e : D) (a : Addr), sl[i]? = some (some (.own d)) → sl[j]? = some (some (.own e)) → sg[i]? = some (some (.ref a)) → sg[j]? = some (some (.ref a)) → i = j
  len : sl.length = sg.length
/-- addresses of N, and what was free in H -/
def Nf (N : AS) (H : Hp) : AS := fun a => N a ∨ H a = none
def Nd (N : AS) (p : Addr) : AS := fun a => N a ∧ a ≠ p
/-- an expression's answer: data; a container that is new and nobody else's; a container that a slot owns -/
def EvOk (G : GC) (N : AS) (H H' : Hp) (v : V) (e : EV) : Prop :=
  match e.k with
  | .dat => Rep G (Nf N H) H' v e.d
  | .new => isCont e.d = true ∧ ∃ a, v = .ref a ∧ H a = none ∧ Top G (Nd (Nf N H) a) H' v e.d
  | .bor => Top G (Nf N H) H' v e.d
theorem EvOk.top {G : GC} {N : AS} {H H' : Hp} {v : V} {e : EV} (h : EvOk G N H H' v e) : Top G (Nf N H) H' v e.d := by
  unfold EvOk at h
  split at h
  · exact h.top
  · obtain ⟨_, a, _, _, h⟩ := h
    exact h.mono fun _ z => z.1
  · exact h
/-- what may be stored: no borrowed thing -/
theorem EvOk.rep {G : GC} {N : AS} {H H' : Hp} {v : V} {e : EV} (h : EvOk G N H H' v e) (hb : e.k ≠ .bor) : Rep G (Nf N H) H' v e.d := by
  unfold EvOk at h
  split at h
  · exact h
  · obtain ⟨_, a, e1, e2, h⟩ := h
    refine h.rep (fun _ z => z.1) fun b e3 _ => ?_
    rw [e1] at e3
    cases e3
    exact .inr e2
  · exact absurd (by assumption) hb
theorem EvOk.ext {G : GC} {N : AS} {H H1 H2 : Hp} {v : V} {e : EV} (h : EvOk G N H H1 v e) (x : Ext G H1 H2) : EvOk G N H H2 v e := by
  obtain ⟨d, k⟩ := e
  cases k with
  | dat => exact Rep.ext x h
  | new =>
    obtain ⟨c, a, e1, e2, h⟩ := h
    exact ⟨c, a, e1, e2, h.ext x⟩
  | bor => exact Top.ext x h
structure At (G : GC) (Y N : AS) (sg : St) (H : Hp) (m : MS) : Prop where
  sl : SlOk G Y N sg m.sl H
  row : RowAt G H m.rw
  nro : ¬ N G.ro
theorem SlOk.ext {G : GC} {Y N : AS} {sg : St} {sl : Sl} {H H' : Hp} (h : SlOk G Y N sg sl H) (x : Ext G H H') : SlOk G Y N sg sl H' where
  dat := fun i d e => let ⟨v, e1, r⟩ := h.dat i d e; ⟨v, e1, r.ext x⟩
  own := fun i d e => let ⟨a, e1, y, n, c, r⟩ := h.own i d e; ⟨a, e1, y, n, c, r.ext x⟩
  sep := h.sep
  len := h.len
theorem At.ext {G : GC} {Y N : AS} {sg : St} {H H' : Hp} {m : MS} {r : Rw} (h : At G Y N sg H m) (x : Ext G H H') (q : RowAt G H' r) : At G Y N sg H' ⟨m.sl, r⟩ := ⟨h.sl.ext x, q, h.nro⟩
/-- evaluated behind H: what was free then is in N too -/
theorem Nf.mono {N : AS} {G : GC} {H H1 : Hp} (x : Ext G H H1) : ∀ a, Nf N H1 a → Nf N H a := fun a z => z.elim .inl fun z => .inr (x.live a z)
/-! ### readings -/
def rdE (G : GC) (Y : AS) (m : ME) : TE := fun sg H Q => ∃ N s e r, At G Y N sg H s ∧ m s = some (e, r) ∧ ∀ v H', Ext G H H' → RowAt G H' r → EvOk G N H H' v e → Q v H'
def rdT (G : GC) (Y : AS) (m : MT) : TT := fun sg H Q => ∃ N s b r, At G Y N sg H s ∧ m s = some (b, r) ∧ ∀ H', Ext G H H' → RowAt G H' r → Q b H'
/-- one of a row of answers: M what may be leaned on, O the new things -/
def Ev1 (G : GC) (M O : AS) (H' : Hp) (v : V) (e : EV) : Prop :=
  match e.k with
  | .dat => Rep G M H' v e.d
  | .new => isCont e.d = true ∧ ∃ a, v = .ref a ∧ O a ∧ Top G M H' v e.d
  | .bor => Top G M H' v e.d
def EvL (G : GC) (M O : AS) (H' : Hp) : List V → List EV → Prop
  | vs, [] => vs = []
  | vs, e :: es => ∃ v t, vs = v :: t ∧ Ev1 G M O H' v e ∧ EvL G M O H' t es
def newsOf : List V → List EV → List V
  | v :: vs, e :: es => if e.k = .new then v :: newsOf vs es else newsOf vs es
  | _, _ => []
/-- a row of answers: what is new stands apart from all the others -/
def EvsOk (G : GC) (N : AS) (H H' : Hp) (vs : List V) (es : List EV) : Prop :=
  ∃ O : AS, (∀ a, O a → H a = none) ∧ EvL G (fun a => Nf N H a ∧ ¬ O a) O H' vs es ∧ (newsOf vs es).Nodup
def rdA (G : GC) (Y : AS) (m : MA) : TA := fun sg H Q => ∃ N s es r, At G Y N sg H s ∧ m s = some (es, r) ∧ ∀ vs H', Ext G H H' → RowAt G H' r → EvsOk G N H H' vs es → Q vs H'
theorem PE.weak {X : Cx} {e : Expr} {t u : TE} (h : PE X e t) (w : ∀ sg H Q, u sg H Q → t sg H Q) : PE X e u := ⟨fun pins s sg H Q I q => h.run pins s sg H Q I (w sg H Q q)⟩
theorem PT.weak {X : Cx} {e : Expr} {t u : TT} (h : PT X e t) (w : ∀ sg H Q, u sg H Q → t sg H Q) : PT X e u := ⟨fun pins s sg H Q I q => h.run pins s sg H Q I (w sg H Q q)⟩
theorem PA.weak {X : Cx} {e : List Expr} {t u : TA} (h : PA X e t) (w : ∀ sg H Q, u sg H Q → t sg H Q) : PA X e u := ⟨fun pos pins s sg H Q I q => h.run pos pins s sg H Q I (w sg H Q q)⟩
theorem PS.weak {X : Cx} {e : Stmt} {t u : TS} (h : PS X e t) (w : ∀ D sg H, u D sg H → t D sg H) : PS X e u := ⟨fun pins s sg H D I q => h.run pins s sg H D I (w D sg H q)⟩
theorem PSs.weak {X : Cx} {e : List Stmt} {t u : TS} (h : PSs X e t) (w : ∀ D sg H, u D sg H → t D sg H) : PSs X e u := ⟨fun pins s sg H D I q => h.run pins s sg H D I (w D sg H q)⟩
/-- the context's fixed part is G's -/
structure Fit (G : GC) (X : Cx) : Prop where
  P : X.prog = G.P
  w : X.w = G.w
  K : X.K = G.K
  calm : X.calm = true
abbrev SE (G : GC) (Y : AS) (X : Cx) (e : Expr) (m : ME) : Prop := PE X e (rdE G Y m)
abbrev ST (G : GC) (Y : AS) (X : Cx) (e : Expr) (m : MT) : Prop := PT X e (rdT G Y m)
abbrev SA (G : GC) (Y : AS) (X : Cx) (e : List Expr) (m : MA) : Prop := PA X e (rdA G Y m)
end GD
/-! Gb -/
set_option maxHeartbeats 4000000
/-! Gb: rules for expressions. -/
namespace GD
open PySem L2
def lim : Nat := 1000000
theorem lim_line {n : Nat} (h : n ≤ lim) : n ≤ sizeLine := Nat.le_trans h (by decide)
theorem lim_lt {n : Nat} (h : n ≤ lim) : n < sizeLine := Nat.lt_of_le_of_lt h (by decide)
/-! ### D as the library's data -/
mutual
def py : D → PyData
  | .non => .none
  | .bl b => .bool b
  | .int i => .int i
  | .tup l => .tuple (pys l)
  | .lst l => .list (pys l)
  | .dI _ => .dict []
  | .dT _ => .dict []
  | .row => .dict []
def pys : List D → List PyData
  | [] => []
  | d :: r => py d :: pys r
end
theorem pys_map : ∀ l : List D, pys l = l.map py
  | [] => rfl
  | d :: r => by simp only [pys, List.map_cons, pys_map r]
section
variable {G : GC} {N : AS} {H : Hp}
mutual
theorem Rep.dp : ∀ (d : D) (v : V), Rep G N H v d → (py d).canLay0 = true → Dp G.K H v (py d)
  | .non, v, h, _ => by simp only [Rep] at h; subst h; exact .non
  | .bl b, v, h, _ => by simp only [Rep] at h; subst h; exact .bl b
  | .int i, v, h, _ => by simp only [Rep] at h; subst h; exact .int i
  | .row, v, h, c => by simp [py, PyData.canLay0] at c
  | .dI _, v, h, c => by simp [py, PyData.canLay0] at c
  | .dT _, v, h, c => by simp [py, PyData.canLay0] at c
  | .tup l, v, h, c => by
    simp only [Rep] at h
    obtain ⟨a, vs, rfl, e, h⟩ := h
    exact .tup (SqT.of e) (RepL.dp l vs h (by simpa [py, PyData.canLay0] using c))
  | .lst l, v, h, c => by
    simp only [Rep] at h
    obtain ⟨a, vs, rfl, _, _, e, h⟩ := h
    exact .lst (SqL.of e) (RepL.dp l vs h (by simpa [py, PyData.canLay0] using c))
theorem RepL.dp : ∀ (l : List D) (vs : List V), RepL G N H vs l → PyData.canLayAll0 (pys l) = true → DpAll G.K H vs (pys l)
  | [], vs, h, _ => by simp only [RepL] at h; subst h; exact .nil
  | d :: r, vs, h, c => by
    simp only [RepL] at h
    obtain ⟨v, t, rfl, h1, h2⟩ := h
    have c' : (py d).canLay0 = true ∧ PyData.canLayAll0 (pys r) = true := by simpa [pys, PyData.canLayAll0] using c
    exact .cons (Rep.dp d v h1 c'.1) (RepL.dp r t h2 c'.2)
end
theorem Top.dp {d : D} {v : V} (h : Top G N H v d) (c : (py d).canLay0 = true) : Dp G.K H v (py d) := Rep.dp (N := fun _ => True) d v (h.rep (fun _ _ => trivial) fun _ _ _ => trivial) c
end
/-- what == may be asked of -/
def shp (d : D) : Bool := SeqAt.shaped (py d)
theorem shp_lay {d : D} (h : shp d = true) : (py d).canLay0 = true := SeqAt.canLay_of_shaped h
def eqD (a b : D) : Bool := PyData.eqv (py a) (py b)
/-! ### values -/
section
variable {G : GC} {Y : AS} {X : Cx} {e a b : Expr} {pos : Pos}
def mVar (i : Nat) : ME := fun s => match s.sl[i]? with
  | some (some (.dat d)) => some (⟨d, .dat⟩, s.rw)
  | some (some (.own d)) => some (⟨d, .bor⟩, s.rw)
  | _ => none
def mCst (d : D) : ME := fun s => some (⟨d, .dat⟩, s.rw)
theorem nf_of {N : AS} {H : Hp} : ∀ a, N a → Nf N H a := fun _ z => .inl z
theorem SlOk.val {N : AS} {sg : St} {sl : Sl} {H : Hp} {i : Nat} {e : EV} {r r' : Rw} (h : SlOk G Y N sg sl H) (q : mVar i ⟨sl, r⟩ = some (e, r')) : r' = r ∧ ∃ v, sg[i]? = some (some v) ∧ EvOk G N H H v e := by
  unfold mVar at q
  simp only at q
  split at q
  · rename_i d hd
    cases q
    obtain ⟨v, e1, q⟩ := h.dat i d hd
    exact ⟨rfl, v, e1, q.mono nf_of⟩
  · rename_i d hd
    cases q
    obtain ⟨a, e1, _, _, _, q⟩ := h.own i d hd
    exact ⟨rfl, _, e1, q.mono nf_of⟩
  · cases q
theorem se_var {i : Nat} {x : Str} (h : PE X e (tVar i)) : SE G Y X e (mVar i) := PE.weak h fun sg H Q h => by
  obtain ⟨N, s, e, r, at_, q, k⟩ := h
  obtain ⟨rfl, v, e1, ok⟩ := at_.sl.val q
  exact ⟨v, e1, k v H (Ext.refl G H) at_.row ok⟩
theorem se_cst {v : V} {d : D} (h : PE X e (tC v)) (hd : ∀ N H, Rep G N H v d) : SE G Y X e (mCst d) := PE.weak h fun sg H Q h => by
  obtain ⟨N, s, e, r, at_, q, k⟩ := h
  cases q
  exact k v H (Ext.refl G H) at_.row (hd _ _)
theorem se_int {i : Int} {j : Nat} : SE G Y X (.Constant (.int i) j pos) (mCst (.int i)) := se_cst pe_int fun _ _ => by simp only [Rep]
theorem se_bl {i : Bool} {j : Nat} : SE G Y X (.Constant (.bool i) j pos) (mCst (.bl i)) := se_cst pe_bl fun _ _ => by simp only [Rep]
theorem se_non {j : Nat} : SE G Y X (.Constant .none j pos) (mCst .non) := se_cst pe_non fun _ _ => by simp only [Rep]
theorem sv (i : Nat) {x : Str} {pos : Pos} (hN : X.N[i]? = some x := by rfl) (hv : Vis X.env.scope x := by first | exact Or.inl rfl | exact Or.inr (Or.inl rfl) | exact Or.inr (Or.inr rfl)) (hd : (x == ("__debug__" : Str)) = false := by decide)
    (hcd : (x == ("__classdict__" : Str)) = false := by decide) : SE G Y X (.Name x pos) (mVar i) := se_var (x := x) (pe_var hN hv hd hcd)
theorem se_glob {x : Str} {i : Int} {t : Tok} (hg : Gl X x) (hm : X.mg x = some (.int i t)) (hd : (x == ("__debug__" : Str)) = false := by decide) : SE G Y X (.Name x pos) (mCst (.int i)) :=
  se_cst (v := .int i) (pe_glob hg hm ⟨t, rfl⟩ hd) fun _ _ => by simp only [Rep]
/-! ### heaps that only grow -/
structure Grow (G : GC) (H H' : Hp) : Prop where
  ext : Ext G H H'
  row : ∀ r, RowAt G H r → RowAt G H' r
theorem Grow.refl (G : GC) (H : Hp) : Grow G H H := ⟨Ext.refl G H, fun _ h => h⟩
theorem Grow.trans {G : GC} {H H1 H2 : Hp} (a : Grow G H H1) (b : Grow G H1 H2) : Grow G H H2 := ⟨a.ext.trans b.ext, fun r h => b.row r (a.row r h)⟩
theorem same_row {G : GC} {H H' : Hp} {r : Rw} (e : ∀ b o, H b = some o → H' b = some o) (h : RowAt G H r) : RowAt G H' r := by
  obtain ⟨h1, h2, h3⟩ := h
  refine ⟨e _ _ h1, Same.seq e h2, fun P hP => ?_⟩
  obtain ⟨ps, q1, q2⟩ := h3 P hP
  exact ⟨ps, e _ _ q1, q2⟩
theorem Grow.new {G : GC} {H : Hp} {p : Addr} {o : HO} (h : H p = none) : Grow G H (upd H p o) :=
  ⟨Ext.new h, fun r q => same_row (fun b u e => by rw [upd_ne (ne_of_none e h)]; exact e) q⟩
theorem Grow.of {G : GC} {H H' : Hp} (e : ∀ b o, H b = some o → H' b = some o) : Grow G H H' :=
  ⟨⟨fun a o h _ _ => e a o h, fun a xs h => e a _ h, fun a h => by
    cases q : H a with
    | none => rfl
    | some o => rw [e a o q] at h; cases h⟩, fun _ q => same_row e q⟩
/-- an answer behind H, told from an earlier heap -/
theorem EvOk.base {G : GC} {N : AS} {H H2 H3 : Hp} {z : V} {x : EV} (h : EvOk G (Nf N H) H2 H3 z x) (e : Ext G H H2) : EvOk G N H H3 z x := by
  have m : ∀ a, Nf (Nf N H) H2 a → Nf N H a := fun a q => q.elim id fun q => .inr (e.live a q)
  obtain ⟨d, k⟩ := x
  cases k with
  | dat => exact Rep.mono m h
  | new =>
    obtain ⟨c, a, e1, e2, h⟩ := h
    exact ⟨c, a, e1, e.live a e2, h.mono fun b q => ⟨m b q.1, q.2⟩⟩
  | bor => exact Top.mono m h
/-- .. and told from fewer addresses -/
theorem EvOk.mono {G : GC} {N M : AS} {H H3 : Hp} {z : V} {x : EV} (h : EvOk G N H H3 z x) (m : ∀ a, N a → M a) : EvOk G M H H3 z x := by
  have m' : ∀ a, Nf N H a → Nf M H a := fun a q => q.elim (fun q => .inl (m a q)) .inr
  obtain ⟨d, k⟩ := x
  cases k with
  | dat => exact Rep.mono m' h
  | new =>
    obtain ⟨c, a, e1, e2, h⟩ := h
    exact ⟨c, a, e1, e2, h.mono fun b q => ⟨m' b q.1, q.2⟩⟩
  | bor => exact Top.mono m' h
/-! ### operators -/
/-- r does what f says -/
def Opr (G : GC) (r : R2) (f : D → D → Option EV) : Prop := ∀ (M : AS) (H : Hp) (v w : V) (d e : D) (x : EV) (rw : Rw) (Q : VK), RowAt G H rw → ¬ M G.ro → Top G M H v d → Top G M H w e → f d e = some x →
  (∀ z H', Grow G H H' → EvOk G M H H' z x → Q z H') → r v w H Q
def mBin (f : D → D → Option EV) (a b : ME) : ME := fun s => (a s).bind fun p => (b ⟨s.sl, p.2⟩).bind fun q => (f p.1.d q.1.d).map fun e => (e, q.2)
theorem mBin_some {f : D → D → Option EV} {a b : ME} {s : MS} {e : EV} {r : Rw} (h : mBin f a b s = some (e, r)) : ∃ p r1 q, a s = some (p, r1) ∧ b ⟨s.sl, r1⟩ = some (q, r) ∧ f p.d q.d = some e := by
  unfold mBin at h
  simp only [Option.bind_eq_some_iff, Option.map_eq_some_iff] at h
  obtain ⟨⟨p, r1⟩, h1, ⟨q, r2⟩, h2, x, h3, h4⟩ := h
  cases h4
  exact ⟨p, r1, q, h1, h2, h3⟩
theorem nro_nf {N : AS} {H : Hp} {r : Rw} (hn : ¬ N G.ro) (h : RowAt G H r) : ¬ Nf N H G.ro := fun z => z.elim hn h.live
theorem rd_bin {r : R2} {f : D → D → Option EV} {a b : ME} (hr : Opr G r f) {sg : St} {H : Hp} {Q : VK} (h : rdE G Y (mBin f a b) sg H Q) : tOp r (rdE G Y a) (rdE G Y b) sg H Q := by
  obtain ⟨N, s, e, rw, at_, q, k⟩ := h
  obtain ⟨p, r1, q1, h1, h2, h3⟩ := mBin_some q
  refine ⟨N, s, p, r1, at_, h1, fun v H1 x1 w1 o1 => ?_⟩
  refine ⟨N, ⟨s.sl, r1⟩, q1, rw, at_.ext x1 w1, h2, fun w H2 x2 w2 o2 => ?_⟩
  refine hr (Nf N H) H2 v w p.d q1.d e rw Q w2 (nro_nf at_.nro at_.row) (o1.ext x2).top (o2.top.mono (Nf.mono x1)) h3 fun z H3 g o3 => ?_
  exact k z H3 ((x1.trans x2).trans g.ext) (g.row _ w2) (o3.base (x1.trans x2))
theorem se_bin {op : Operator} {r : R2} {f : D → D → Option EV} {ma mb : ME} (ho : OpR X (binaryOp op) r) (hf : Opr G r f) (ha : SE G Y X a ma) (hb : SE G Y X b mb) : SE G Y X (.BinOp a op b pos) (mBin f ma mb) :=
  PE.weak (pe_op ho ha hb) fun _ _ _ h => rd_bin hf h
theorem se_cmp {op : CmpOp} {r : R2} {f : D → D → Option EV} {ma mb : ME} (ho : OpR X (compareOp op) r) (hf : Opr G r f) (ha : SE G Y X a ma) (hb : SE G Y X b mb) (hm : behindInMarks op b = false) : SE G Y X (.Compare a [op] [b] pos) (mBin f ma mb) :=
  PE.weak (pe_cmpR ho ha hb hm) fun _ _ _ h => rd_bin hf h
def evB (b : Bool) : EV := ⟨.bl b, .dat⟩
def evI (i : Int) : EV := ⟨.int i, .dat⟩
theorem ok_bl {M : AS} {H H' : Hp} {b : Bool} : EvOk G M H H' (.bl b) (evB b) := (show Rep G (Nf M H) H' (.bl b) (.bl b) by simp only [Rep])
theorem ok_int {M : AS} {H H' : Hp} {i : Int} : EvOk G M H H' (.int i) (evI i) := (show Rep G (Nf M H) H' (.int i) (.int i) by simp only [Rep])
theorem Opr.or {r r' : R2} {f g : D → D → Option EV} (h : Opr G r f) (h' : Opr G r' g) : Opr G (fun x y H Q => r x y H Q ∨ r' x y H Q) (fun a b => (f a b).or (g a b)) := by
  intro M H v w d e x rw Q q1 q2 q3 q4 q5 k
  have q5 : (f d e).or (g d e) = some x := q5
  cases hf : f d e with
  | some y =>
    rw [hf] at q5
    cases q5
    exact .inl (h M H v w d e _ rw Q q1 q2 q3 q4 hf k)
  | none =>
    rw [hf] at q5
    exact .inr (h' M H v w d e x rw Q q1 q2 q3 q4 q5 k)
def fInt (g : Int → Int → Option EV) : D → D → Option EV
  | .int i, .int j => g i j
  | _, _ => none
theorem fInt_some {g : Int → Int → Option EV} {d e : D} {x : EV} (h : fInt g d e = some x) : ∃ i j, d = .int i ∧ e = .int j ∧ g i j = some x := by
  cases d <;> cases e <;> simp [fInt] at h
  exact ⟨_, _, rfl, rfl, h⟩
theorem opr_int {C : Int → Int → Prop} {g : Int → Int → Int} {c : Int → Int → Bool} (hc : ∀ i j, c i j = true → C i j) : Opr G (rI C fun i j => .int (g i j)) (fInt fun i j => if c i j = true then some (evI (g i j)) else none) := by
  intro M H v w d e x rw Q _ _ q3 q4 q5 k
  obtain ⟨i, j, rfl, rfl, q6⟩ := fInt_some q5
  have e1 : v = .int i := by simpa only [Top, Rep] using q3
  have e2 : w = .int j := by simpa only [Top, Rep] using q4
  split at q6
  · rename_i hcc
    cases q6
    exact ⟨i, j, e1, e2, hc i j hcc, k _ H (Grow.refl G H) ok_int⟩
  · cases q6
theorem opr_int0 {g : Int → Int → Int} : Opr G (rI0 fun i j => .int (g i j)) (fInt fun i j => some (evI (g i j))) := by
  intro M H v w d e x rw Q _ _ q3 q4 q5 k
  obtain ⟨i, j, rfl, rfl, q5⟩ := fInt_some q5
  have e1 : v = .int i := by simpa only [Top, Rep] using q3
  have e2 : w = .int j := by simpa only [Top, Rep] using q4
  cases q5
  exact ⟨i, j, e1, e2, k _ H (Grow.refl G H) ok_int⟩
theorem opr_intB {g : Int → Int → Bool} : Opr G (rI0 fun i j => .bl (g i j)) (fInt fun i j => some (evB (g i j))) := by
  intro M H v w d e x rw Q _ _ q3 q4 q5 k
  obtain ⟨i, j, rfl, rfl, q5⟩ := fInt_some q5
  have e1 : v = .int i := by simpa only [Top, Rep] using q3
  have e2 : w = .int j := by simpa only [Top, Rep] using q4
  cases q5
  exact ⟨i, j, e1, e2, k _ H (Grow.refl G H) ok_bl⟩
/-- list + list, a new list; tuple + tuple -/
def fCatL : D → D → Option EV
  | .lst a, .lst b => if a.length + b.length ≤ lim then some ⟨.lst (a ++ b), .new⟩ else none
  | _, _ => none
def fCatT : D → D → Option EV
  | .tup a, .tup b => if a.length + b.length ≤ lim then some ⟨.tup (a ++ b), .dat⟩ else none
  | _, _ => none
theorem RepL.fresh {M : AS} {H : Hp} {p : Addr} {o : HO} {vs : List V} {l : List D} (hp : H p = none) (h : RepL G M H vs l) : RepL G (Nd (Nf M H) p) (upd H p o) vs l :=
  RepL.fix (N := Th M H) (Ext.new hp).fix (fun a z => ⟨.inl z.1, fun q => z.2 (q ▸ hp)⟩) l vs (RepL.there l vs h)
theorem new_lst {M : AS} {H : Hp} {p : Addr} {vs : List V} {l : List D} {r : Rw} (hp : H p = none) (hr : RowAt G H r) (h : RepL G M H vs l) : EvOk G M H (upd H p (.lst vs)) (.ref p) ⟨.lst l, .new⟩ :=
  ⟨rfl, p, rfl, hp, p, vs, rfl, fun z => hr.live (z ▸ hp), upd_same, RepL.fresh hp h⟩
theorem new_tup {M : AS} {H : Hp} {p : Addr} {vs : List V} {l : List D} (hp : H p = none) (h : RepL G M H vs l) : EvOk G M H (upd H p (.tup vs)) (.ref p) ⟨.tup l, .dat⟩ := by
  show Rep G (Nf M H) _ _ (.tup l)
  simp only [Rep]
  exact ⟨p, vs, rfl, upd_same, (RepL.fresh hp h).mono fun _ z => z.1⟩
theorem opr_catL : Opr G rCat fCatL := by
  intro M H v w d e x rw Q q1 q2 q3 q4 q5 k
  cases d <;> cases e <;> simp only [fCatL] at q5 <;> try cases q5
  rename_i l m
  split at q5
  · rename_i hl
    cases q5
    obtain ⟨a, vs, rfl, _, ea, ra⟩ := q3
    obtain ⟨b, us, rfl, _, eb, rb⟩ := q4
    refine ⟨a, b, vs, us, rfl, rfl, ea, eb, lim_line (by rw [ra.len, rb.len]; exact hl), fun p hp => ?_⟩
    exact k _ _ (Grow.new hp) (new_lst hp q1 (RepL.append ra rb))
  · cases q5
theorem Top.tup {M : AS} {H : Hp} {v : V} {l : List D} (h : Top G M H v (.tup l)) : ∃ a vs, v = .ref a ∧ H a = some (.tup vs) ∧ RepL G M H vs l := by
  have h' : Rep G M H v (.tup l) := h
  simpa only [Rep] using h'
theorem tup_ok {M : AS} {H H' : Hp} {a : Addr} {vs : List V} {l : List D} (e : H' a = some (.tup vs)) (r : RepL G (Nf M H) H' vs l) : EvOk G M H H' (.ref a) ⟨.tup l, .dat⟩ := by
  show Rep G (Nf M H) _ _ (.tup l)
  simp only [Rep]
  exact ⟨a, vs, rfl, e, r⟩
theorem opr_catT : Opr G (rCatA G.K) fCatT := by
  intro M H v w d e x rw Q q1 q2 q3 q4 q5 k
  cases d <;> cases e <;> simp only [fCatT] at q5 <;> try cases q5
  rename_i l m
  split at q5
  · rename_i hl
    cases q5
    obtain ⟨a, vs, rfl, ea, ra⟩ := q3.tup
    obtain ⟨b, us, rfl, eb, rb⟩ := q4.tup
    refine ⟨a, b, vs, us, rfl, rfl, SqT.of ea, SqT.of eb, lim_line (by rw [ra.len, rb.len]; exact hl), fun z => ?_, fun _ z => ?_, fun _ _ p hp => ?_⟩
    · subst z
      cases l with
      | nil => exact k _ _ (Grow.refl G H) (tup_ok eb (rb.mono nf_of))
      | cons d r => have := ra.len; simp at this
    · subst z
      cases m with
      | nil => rw [List.append_nil] at k; exact k _ _ (Grow.refl G H) (tup_ok ea (ra.mono nf_of))
      | cons d r => have := rb.len; simp at this
    · exact k _ _ (Grow.new hp) (new_tup hp (RepL.append ra rb))
  · cases q5
/-! ### comparisons -/
def fEq (a b : D) : Option EV := if (shp a && shp b) = true then some (evB (eqD a b)) else none
def fNe (a b : D) : Option EV := if (shp a && shp b) = true then some (evB (!eqD a b)) else none
theorem opr_eq : Opr G (rEqD G.K) fEq := by
  intro M H v w d e x rw Q q1 q2 q3 q4 q5 k
  unfold fEq at q5
  split at q5
  · rename_i hs
    cases q5
    rw [Bool.and_eq_true] at hs
    exact ⟨py d, py e, q3.dp (shp_lay hs.1), q4.dp (shp_lay hs.2), hs.1, hs.2, k _ H (Grow.refl G H) ok_bl⟩
  · cases q5
theorem opr_ne : Opr G (rNeD G.K) fNe := by
  intro M H v w d e x rw Q q1 q2 q3 q4 q5 k
  unfold fNe at q5
  split at q5
  · rename_i hs
    cases q5
    rw [Bool.and_eq_true] at hs
    exact ⟨py d, py e, q3.dp (shp_lay hs.1), q4.dp (shp_lay hs.2), hs.1, hs.2, k _ H (Grow.refl G H) ok_bl⟩
  · cases q5
def rInTup (K : PySem.W.Frag) (neg : Bool) : R2 := fun x y H Q => ∃ d ds, Dp K H x d ∧ Dp K H y (.tuple ds) ∧ SeqAt.shaped d = true ∧ SeqAt.shaped (.tuple ds) = true ∧ Q (.bl (neg != ds.any fun z => PyData.eqv z d)) H
def rInLst (K : PySem.W.Frag) (neg : Bool) : R2 := fun x y H Q => ∃ d ds, Dp K H x d ∧ Dp K H y (.list ds) ∧ SeqAt.shaped d = true ∧ SeqAt.shaped (.list ds) = true ∧ Q (.bl (neg != ds.any fun z => PyData.eqv z d)) H
theorem room_in_shapedT {d : PyData} {ds : List PyData} {A : Around} (sd : SeqAt.shaped d = true) (hu : A.units + 65 < cLine) : A.units + 1 + min (PyData.depthAll ds) d.depth < cLine := by
  have h : d.depth ≤ 64 := by
    unfold SeqAt.shaped at sd
    simp only [Bool.and_eq_true, decide_eq_true_eq] at sd
    exact sd.2
  omega
theorem op_inLst (hu : X.A.units + 65 < cLine) : OpR X (compareOp .In) (rInLst X.K false) := by
  intro pins s σ H x y v u Q I rx ry ⟨d, ds, hd, he, sd, se, q⟩
  exact op_inD hu pins s σ H x y v u Q I rx ry ⟨d, ds, hd, he, sd, se, by simpa using q⟩
theorem op_notInLst (hu : X.A.units + 65 < cLine) : OpR X (compareOp .NotIn) (rInLst X.K true) := by
  intro pins s σ H x y v u Q I rx ry ⟨d, ds, hd, he, sd, se, q⟩
  exact op_notInD hu pins s σ H x y v u Q I rx ry ⟨d, ds, hd, he, sd, se, by simpa using q⟩
theorem op_inTup (hu : X.A.units + 65 < cLine) : OpR X (compareOp .In) (rInTup X.K false) := by
  intro pins s σ H x y v u Q I rx ry ⟨d, ds, hd, he, sd, se, q⟩
  obtain ⟨as, r1⟩ := Dp.reads I d x v hd rx
  obtain ⟨bs, r2⟩ := Dp.reads I (.tuple ds) y u he ry
  exact SeqAt.in_tuple_reads r2 r1 (SeqAt.canLay_of_shaped se) (SeqAt.canLay_of_shaped sd) (room_in_shapedT sd hu) ⟨.bl _, H, I, rfl, by simpa using q⟩
theorem op_notInTup (hu : X.A.units + 65 < cLine) : OpR X (compareOp .NotIn) (rInTup X.K true) := by
  intro pins s σ H x y v u Q I rx ry ⟨d, ds, hd, he, sd, se, q⟩
  obtain ⟨as, r1⟩ := Dp.reads I d x v hd rx
  obtain ⟨bs, r2⟩ := Dp.reads I (.tuple ds) y u he ry
  exact SeqAt.notIn_tuple_reads r2 r1 (SeqAt.canLay_of_shaped se) (SeqAt.canLay_of_shaped sd) (room_in_shapedT sd hu) ⟨.bl _, H, I, rfl, by simpa using q⟩
theorem any_pys (l : List D) (x : D) : (pys l).any (fun z => PyData.eqv z (py x)) = l.any fun z => eqD z x := by
  rw [pys_map, List.any_map]; rfl
def fInL (neg : Bool) (x : D) : D → Option EV
  | .lst l => if (shp x && shp (.lst l)) = true then some (evB (neg != l.any fun z => eqD z x)) else none
  | _ => none
def fInT (neg : Bool) (x : D) : D → Option EV
  | .tup l => if (shp x && shp (.tup l)) = true then some (evB (neg != l.any fun z => eqD z x)) else none
  | _ => none
theorem opr_inL {neg : Bool} : Opr G (rInLst G.K neg) (fInL neg) := by
  intro M H v w d e x rw Q q1 q2 q3 q4 q5 k
  cases e <;> simp only [fInL] at q5 <;> try cases q5
  rename_i l
  split at q5
  · rename_i hs
    cases q5
    rw [Bool.and_eq_true] at hs
    refine ⟨py d, pys l, q3.dp (shp_lay hs.1), q4.dp (d := .lst l) (shp_lay hs.2), hs.1, hs.2, ?_⟩
    rw [any_pys]
    exact k _ H (Grow.refl G H) ok_bl
  · cases q5
theorem opr_inT {neg : Bool} : Opr G (rInTup G.K neg) (fInT neg) := by
  intro M H v w d e x rw Q q1 q2 q3 q4 q5 k
  cases e <;> simp only [fInT] at q5 <;> try cases q5
  rename_i l
  split at q5
  · rename_i hs
    cases q5
    rw [Bool.and_eq_true] at hs
    refine ⟨py d, pys l, q3.dp (shp_lay hs.1), q4.dp (d := .tup l) (shp_lay hs.2), hs.1, hs.2, ?_⟩
    rw [any_pys]
    exact k _ H (Grow.refl G H) ok_bl
  · cases q5
end
end GD
/-! Gc -/
set_option maxHeartbeats 4000000
/-! Gc: tests, and or not, displays, subscripts, slices, dicts with tuple keys read. -/
namespace GD
open PySem L2
section
variable {G : GC} {Y : AS} {X : Cx} {e a b c : Expr} {es : List Expr} {pos : Pos}
/-! ### tests -/
def mTb (m : ME) : MT := fun s => (m s).bind fun p => match p.1.d with
  | .bl b => some (b, p.2)
  | _ => none
theorem mTb_some {m : ME} {s : MS} {b : Bool} {r : Rw} (h : mTb m s = some (b, r)) : ∃ k, m s = some (⟨.bl b, k⟩, r) := by
  unfold mTb at h
  simp only [Option.bind_eq_some_iff] at h
  obtain ⟨⟨⟨d, k⟩, r1⟩, h1, h2⟩ := h
  cases d <;> simp at h2
  obtain ⟨rfl, rfl⟩ := h2
  exact ⟨k, h1⟩
theorem ev_bl {N : AS} {H H' : Hp} {v : V} {b : Bool} {k : Kd} (h : EvOk G N H H' v ⟨.bl b, k⟩) : v = .bl b := by
  have := h.top
  simpa only [Top, Rep] using this
theorem ev_int {N : AS} {H H' : Hp} {v : V} {b : Int} {k : Kd} (h : EvOk G N H H' v ⟨.int b, k⟩) : v = .int b := by
  have := h.top
  simpa only [Top, Rep] using this
theorem rd_tb {m : ME} {sg : St} {H : Hp} {Q : Bool → Hp → Prop} (h : rdT G Y (mTb m) sg H Q) : rdE G Y m sg H fun x H1 => ∃ k, x = .bl k ∧ Q k H1 := by
  obtain ⟨N, s, b, r, at_, q, k⟩ := h
  obtain ⟨kd, q⟩ := mTb_some q
  exact ⟨N, s, _, r, at_, q, fun v H' x w o => ⟨b, ev_bl o, k H' x w⟩⟩
theorem st_cmp {op : CmpOp} {r : R2} {f : D → D → Option EV} {ma mb : ME} (ho : OpR X (compareOp op) r) (hf : Opr G r f) (ha : SE G Y X a ma) (hb : SE G Y X b mb) (hm : behindInMarks op b = false) : ST G Y X (.Compare a [op] [b] pos) (mTb (mBin f ma mb)) :=
  PT.weak (pt_cmpR ho ha hb hm) fun _ _ _ h => rd_bin hf (rd_tb h)
/-- a value that is a bool, as a test -/
theorem st_val {m : ME} (h : SE G Y X e m) (he : ∀ whole, isTrue e X.env whole = (do let v ← whole; standAt e.pos; holding [v] (truthy v)) := by intro _; rfl) : ST G Y X e (mTb m) :=
  PT.weak (pt_val h he) fun _ _ _ h => rd_tb h
def truD : D → Option Bool
  | .non => some false
  | .bl b => some b
  | .int i => some (i != 0)
  | .tup l => some (!l.isEmpty)
  | .lst l => some (!l.isEmpty)
  | _ => none
def mTr (m : ME) : MT := fun s => (m s).bind fun p => (truD p.1.d).map fun b => (b, p.2)
theorem RepL.empty {N : AS} {H : Hp} {vs : List V} {l : List D} (h : RepL G N H vs l) : vs.isEmpty = l.isEmpty := by
  have := h.len
  cases vs <;> cases l <;> simp_all
theorem tru_ok {M : AS} {H : Hp} {v : V} {d : D} {b : Bool} (h : Top G M H v d) (q : truD d = some b) : TruV G.K v H b := by
  cases d <;> simp only [truD] at q <;> try cases q
  · have : v = .non := by simpa only [Top, Rep] using h
    subst this; rfl
  · have : v = .bl b := by simpa only [Top, Rep] using h
    subst this; rfl
  · rename_i i
    have : v = .int i := by simpa only [Top, Rep] using h
    subst this; rfl
  · obtain ⟨a, vs, rfl, e, r⟩ := h.tup
    exact .inr (.inl ⟨vs, SqT.of e, by rw [r.empty]⟩)
  · obtain ⟨a, vs, rfl, _, e, r⟩ := h
    exact .inl ⟨vs, SqL.of e, by rw [r.empty]⟩
theorem st_tru {m : ME} (ft : Fit G X) (h : SE G Y X e m) (he : ∀ whole, isTrue e X.env whole = (do let v ← whole; standAt e.pos; holding [v] (truthy v)) := by intro _; rfl) : ST G Y X e (mTr m) :=
  PT.weak (pt_truth h he) fun sg H Q h => by
    obtain ⟨N, s, b, r, at_, q, k⟩ := h
    unfold mTr at q
    simp only [Option.bind_eq_some_iff, Option.map_eq_some_iff] at q
    obtain ⟨⟨d, r1⟩, h1, b', h2, h3⟩ := q
    cases h3
    refine ⟨N, s, d, r1, at_, h1, fun v H' x w o => ⟨b, ?_, k H' x w⟩⟩
    rw [ft.K]
    exact tru_ok o.top h2
def mTNot (m : MT) : MT := fun s => (m s).map fun p => (!p.1, p.2)
theorem st_not {m : MT} (h : ST G Y X a m) : ST G Y X (.UnaryOp .Not a pos) (mTNot m) := PT.weak (pt_not h) fun sg H Q h => by
  obtain ⟨N, s, b, r, at_, q, k⟩ := h
  unfold mTNot at q
  simp only [Option.map_eq_some_iff] at q
  obtain ⟨⟨b', r'⟩, h1, h2⟩ := q
  cases h2
  exact ⟨N, s, b', r', at_, h1, k⟩
theorem PW.weak {X : Cx} {e : Expr} {t u : TT} (h : PW X e t) (w : ∀ sg H Q, u sg H Q → t sg H Q) : PW X e u := ⟨fun wh pins s sg H Q I q => h.run wh pins s sg H Q I (w sg H Q q)⟩
abbrev SW (G : GC) (Y : AS) (X : Cx) (e : Expr) (m : MT) : Prop := PW X e (rdT G Y m)
def mTAnd (a b : MT) : MT := fun s => (a s).bind fun p => if p.1 = true then b ⟨s.sl, p.2⟩ else some (false, p.2)
def mTOr (a b : MT) : MT := fun s => (a s).bind fun p => if p.1 = true then some (true, p.2) else b ⟨s.sl, p.2⟩
theorem sw_and1 {m : MT} (h : ST G Y X a m) : SW G Y X (.BoolOp .And [a] pos) m := pw_and1 h
theorem sw_or1 {m : MT} (h : ST G Y X a m) : SW G Y X (.BoolOp .Or [a] pos) m := pw_or1 h
theorem sw_and {ma mb : MT} (ha : ST G Y X a ma) (hb : SW G Y X (.BoolOp .And (b :: es) pos) mb) : SW G Y X (.BoolOp .And (a :: b :: es) pos) (mTAnd ma mb) := PW.weak (pw_and ha hb) fun sg H Q h => by
  obtain ⟨N, s, b, r, at_, q, k⟩ := h
  unfold mTAnd at q
  simp only [Option.bind_eq_some_iff] at q
  obtain ⟨⟨b', r1⟩, h1, h2⟩ := q
  refine ⟨N, s, b', r1, at_, h1, fun H1 x w => ?_⟩
  cases b' with
  | true => exact ⟨N, ⟨s.sl, r1⟩, b, r, at_.ext x w, h2, fun H2 x2 w2 => k H2 (x.trans x2) w2⟩
  | false => cases h2; exact k H1 x w
theorem sw_or {ma mb : MT} (ha : ST G Y X a ma) (hb : SW G Y X (.BoolOp .Or (b :: es) pos) mb) : SW G Y X (.BoolOp .Or (a :: b :: es) pos) (mTOr ma mb) := PW.weak (pw_or ha hb) fun sg H Q h => by
  obtain ⟨N, s, b, r, at_, q, k⟩ := h
  unfold mTOr at q
  simp only [Option.bind_eq_some_iff] at q
  obtain ⟨⟨b', r1⟩, h1, h2⟩ := q
  refine ⟨N, s, b', r1, at_, h1, fun H1 x w => ?_⟩
  cases b' with
  | false => exact ⟨N, ⟨s.sl, r1⟩, b, r, at_.ext x w, h2, fun H2 x2 w2 => k H2 (x.trans x2) w2⟩
  | true => cases h2; exact k H1 x w
theorem st_w {m : MT} (h : SW G Y X e m) : ST G Y X e m := h.pt
/-! ### and, or, not as values (bools) -/
def mAnd (a b : ME) : ME := fun s => (a s).bind fun p => match p.1.d with
  | .bl true => b ⟨s.sl, p.2⟩
  | .bl false => some (evB false, p.2)
  | _ => none
def mOr (a b : ME) : ME := fun s => (a s).bind fun p => match p.1.d with
  | .bl false => b ⟨s.sl, p.2⟩
  | .bl true => some (evB true, p.2)
  | _ => none
def mNot (a : ME) : ME := fun s => (a s).bind fun p => match p.1.d with
  | .bl b => some (evB (!b), p.2)
  | _ => none
theorem se_one {op} {m : ME} (h : SE G Y X a m) : SE G Y X (.BoolOp op [a] pos) m := pe_one h
/-- a later answer, told from the start -/
theorem EvOk.later {N : AS} {H H1 H2 : Hp} {v : V} {x : EV} (e : Ext G H H1) (h : EvOk G N H1 H2 v x) : EvOk G N H H2 v x :=
  (h.mono nf_of (M := Nf N H)).base e
theorem se_and {ma mb : ME} (ha : SE G Y X a ma) (hb : SE G Y X (.BoolOp .And (b :: es) pos) mb) : SE G Y X (.BoolOp .And (a :: b :: es) pos) (mAnd ma mb) := PE.weak (pe_and ha hb) fun sg H Q h => by
  obtain ⟨N, s, z, r, at_, q, k⟩ := h
  unfold mAnd at q
  simp only [Option.bind_eq_some_iff] at q
  obtain ⟨⟨⟨d, kd⟩, r1⟩, h1, h2⟩ := q
  refine ⟨N, s, ⟨d, kd⟩, r1, at_, h1, fun v H1 x w o => ?_⟩
  simp only at h2
  split at h2
  · exact ⟨true, ev_bl o, N, ⟨s.sl, r1⟩, z, r, at_.ext x w, h2, fun v2 H2 x2 w2 o2 => k v2 H2 (x.trans x2) w2 (o2.later x)⟩
  · cases h2
    exact ⟨false, ev_bl o, k _ H1 x w ok_bl⟩
  · cases h2
theorem se_or {ma mb : ME} (ha : SE G Y X a ma) (hb : SE G Y X (.BoolOp .Or (b :: es) pos) mb) : SE G Y X (.BoolOp .Or (a :: b :: es) pos) (mOr ma mb) := PE.weak (pe_or ha hb) fun sg H Q h => by
  obtain ⟨N, s, z, r, at_, q, k⟩ := h
  unfold mOr at q
  simp only [Option.bind_eq_some_iff] at q
  obtain ⟨⟨⟨d, kd⟩, r1⟩, h1, h2⟩ := q
  refine ⟨N, s, ⟨d, kd⟩, r1, at_, h1, fun v H1 x w o => ?_⟩
  simp only at h2
  split at h2
  · exact ⟨false, ev_bl o, N, ⟨s.sl, r1⟩, z, r, at_.ext x w, h2, fun v2 H2 x2 w2 o2 => k v2 H2 (x.trans x2) w2 (o2.later x)⟩
  · cases h2
    exact ⟨true, ev_bl o, k _ H1 x w ok_bl⟩
  · cases h2
theorem se_not {ma : ME} (ha : SE G Y X a ma) : SE G Y X (.UnaryOp .Not a pos) (mNot ma) := PE.weak (pe_not ha) fun sg H Q h => by
  obtain ⟨N, s, z, r, at_, q, k⟩ := h
  unfold mNot at q
  simp only [Option.bind_eq_some_iff] at q
  obtain ⟨⟨⟨d, kd⟩, r1⟩, h1, h2⟩ := q
  refine ⟨N, s, ⟨d, kd⟩, r1, at_, h1, fun v H1 x w o => ?_⟩
  simp only at h2
  split at h2
  · cases h2
    exact ⟨_, ev_bl o, k _ H1 x w ok_bl⟩
  · cases h2
def mIf (t : MT) (a b : ME) : ME := fun s => (t s).bind fun p => if p.1 = true then a ⟨s.sl, p.2⟩ else b ⟨s.sl, p.2⟩
theorem se_if {mt : MT} {ma mb : ME} (ht : ST G Y X c mt) (ha : SE G Y X a ma) (hb : SE G Y X b mb) : SE G Y X (.IfExp c a b pos) (mIf mt ma mb) := PE.weak (pe_ifExp ht ha hb) fun sg H Q h => by
  obtain ⟨N, s, z, r, at_, q, k⟩ := h
  unfold mIf at q
  simp only [Option.bind_eq_some_iff] at q
  obtain ⟨⟨b', r1⟩, h1, h2⟩ := q
  refine ⟨N, s, b', r1, at_, h1, fun H1 x w => ?_⟩
  cases b' with
  | true => exact ⟨N, ⟨s.sl, r1⟩, z, r, at_.ext x w, h2, fun v2 H2 x2 w2 o2 => k v2 H2 (x.trans x2) w2 (o2.later x)⟩
  | false => exact ⟨N, ⟨s.sl, r1⟩, z, r, at_.ext x w, h2, fun v2 H2 x2 w2 o2 => k v2 H2 (x.trans x2) w2 (o2.later x)⟩
/-- a < b <= c -/
def mChain (f g : D → D → Option EV) (a b c : ME) : ME := fun s => (a s).bind fun p => (b ⟨s.sl, p.2⟩).bind fun q => (f p.1.d q.1.d).bind fun z => match z.d with
  | .bl true => (c ⟨s.sl, q.2⟩).bind fun w => (g q.1.d w.1.d).map fun e => (e, w.2)
  | .bl false => some (evB false, q.2)
  | _ => none
theorem rd_chain {r r' : R2} {f g : D → D → Option EV} {a b c : ME} (hf : Opr G r f) (hg : Opr G r' g) {sg : St} {H : Hp} {Q : VK} (h : rdE G Y (mChain f g a b c) sg H Q) : tChain r r' (rdE G Y a) (rdE G Y b) (rdE G Y c) sg H Q := by
  obtain ⟨N, s, e, rw, at_, q, k⟩ := h
  unfold mChain at q
  simp only [Option.bind_eq_some_iff] at q
  obtain ⟨⟨p, r1⟩, h1, ⟨q1, r2⟩, h2, z, h3, h4⟩ := q
  refine ⟨N, s, p, r1, at_, h1, fun v H1 x1 w1 o1 => ?_⟩
  refine ⟨N, ⟨s.sl, r1⟩, q1, r2, at_.ext x1 w1, h2, fun w H2 x2 w2 o2 => ?_⟩
  refine hf (Nf N H) H2 v w p.d q1.d z r2 _ w2 (nro_nf at_.nro at_.row) (o1.ext x2).top (o2.top.mono (Nf.mono x1)) h3 fun z1 H3 g3 o3 => ?_
  have x3 := (x1.trans x2).trans g3.ext
  obtain ⟨d, kd⟩ := z
  simp only at h4
  split at h4
  · refine ⟨true, ev_bl o3, ?_⟩
    rw [if_pos rfl]
    simp only [Option.bind_eq_some_iff, Option.map_eq_some_iff] at h4
    obtain ⟨⟨u, r3⟩, h5, y, h6, h7⟩ := h4
    cases h7
    refine ⟨N, ⟨s.sl, r2⟩, u, r3, at_.ext x3 (g3.row _ w2), h5, fun w' H4 x4 w4 o4 => ?_⟩
    refine hg (Nf N H) H4 w w' q1.d u.d e r3 Q w4 (nro_nf at_.nro at_.row) (((o2.top.mono (Nf.mono x1)).ext g3.ext).ext x4) (o4.top.mono (Nf.mono x3)) h6 fun z2 H5 g5 o5 => ?_
    exact k z2 H5 ((x3.trans x4).trans g5.ext) (g5.row _ w4) (o5.base (x3.trans x4))
  · cases h4
    refine ⟨false, ev_bl o3, ?_⟩
    rw [if_neg Bool.false_ne_true]
    exact k _ H3 x3 (g3.row _ w2) ok_bl
  · cases h4
theorem se_chain {op op' : CmpOp} {r r' : R2} {f g : D → D → Option EV} {ma mb mc : ME} (ho : OpR X (compareOp op) r) (ho' : OpR X (compareOp op') r') (hf : Opr G r f) (hg : Opr G r' g) (ha : SE G Y X a ma) (hb : SE G Y X b mb) (hc : SE G Y X c mc)
    (hm : lastMarks [op, op'] [b, c] = false := by with_unfolding_all rfl) : SE G Y X (.Compare a [op, op'] [b, c] pos) (mChain f g ma mb mc) :=
  PE.weak (pe_chain ho ho' ha hb hc hm) fun _ _ _ q => rd_chain hf hg q
end
end GD
/-! Gd -/
set_option maxHeartbeats 4000000
/-! Gd: arguments, displays, subscripts, slices, dicts with tuple keys read. -/
namespace GD
open PySem L2
section
variable {G : GC} {Y : AS} {X : Cx} {e a b c : Expr} {es : List Expr} {pos : Pos}
/-! ### arguments -/
def mNil : MA := fun s => some ([], s.rw)
def mCons (a : ME) (r : MA) : MA := fun s => (a s).bind fun p => (r ⟨s.sl, p.2⟩).map fun q => (p.1 :: q.1, q.2)
def itemsD : D → Option (List D)
  | .tup l => some l
  | .lst l => some l
  | _ => none
def datE (d : D) : EV := ⟨d, .dat⟩
def mStar (a : ME) (r : MA) : MA := fun s => (a s).bind fun p => (itemsD p.1.d).bind fun l => (r ⟨s.sl, p.2⟩).map fun q => (l.map datE ++ q.1, q.2)
theorem sa_nil : SA G Y X [] mNil := PA.weak pa_nil fun sg H Q h => by
  obtain ⟨N, s, es, r, at_, q, k⟩ := h
  cases q
  refine k [] H (Ext.refl G H) at_.row ⟨fun _ => False, fun _ z => z.elim, ?_, by simp [newsOf]⟩
  simp only [EvL]
/-- slots told over fewer addresses -/
theorem SlOk.less {N M : AS} {sg : St} {sl : Sl} {H : Hp} (h : SlOk G Y N sg sl H) (m : ∀ a, N a → H a ≠ none → M a) (n : ∀ a, M a → N a) : SlOk G Y M sg sl H where
  dat := fun i d e => let ⟨v, e1, r⟩ := h.dat i d e; ⟨v, e1, (Rep.there d v r).mono fun a z => m a z.1 z.2⟩
  own := fun i d e => let ⟨a, e1, y, nn, c, r⟩ := h.own i d e; ⟨a, e1, y, fun z => nn (n a z), c, Top.less r m⟩
  sep := h.sep
  len := h.len
where
  Top.less {N M : AS} {H : Hp} {v : V} {d : D} (r : Top G N H v d) (m : ∀ a, N a → H a ≠ none → M a) : Top G M H v d := by
    cases d with
    | lst l => obtain ⟨a, vs, e1, r, e2, h⟩ := r; exact ⟨a, vs, e1, r, e2, (RepL.there l vs h).mono fun a z => m a z.1 z.2⟩
    | dI l => obtain ⟨a, vs, e1, r, e2, h⟩ := r; exact ⟨a, vs, e1, r, e2, RepI.fix (Ext.refl G H).fix (fun a z => m a z.1 z.2) l vs (RepI.there l vs h)⟩
    | dT l => obtain ⟨a, vs, e1, r, e2, h⟩ := r; exact ⟨a, vs, e1, r, e2, RepT.fix (Ext.refl G H).fix (fun a z => m a z.1 z.2) l vs.2 (RepT.there l vs.2 h)⟩
    | _ => exact (Rep.there _ v r).mono fun a z => m a z.1 z.2
theorem new_free {N : AS} {H H1 : Hp} {v : V} {e : EV} (o : EvOk G N H H1 v e) (hk : e.k = .new) : ∃ a, v = .ref a ∧ H a = none := by
  obtain ⟨d, k⟩ := e
  simp only at hk
  subst hk
  obtain ⟨_, a, e1, e2, _⟩ := o
  exact ⟨a, e1, e2⟩
theorem At.less {N : AS} {sg : St} {H H1 : Hp} {s : MS} {v : V} {e : EV} (at_ : At G Y N sg H s) (x : Ext G H H1) {r : Rw} (w : RowAt G H1 r) (o : EvOk G N H H1 v e) : At G Y (fun a => N a ∧ (e.k = .new → v ≠ .ref a)) sg H1 ⟨s.sl, r⟩ := by
  refine ⟨(at_.sl.less (fun a n hn => ⟨n, fun hk z => ?_⟩) fun a z => z.1).ext x, w, fun z => at_.nro z.1⟩
  obtain ⟨b, e1, e2⟩ := new_free o hk
  rw [e1] at z
  cases z
  exact hn e2
theorem Top.there {N : AS} {H : Hp} {v : V} {d : D} (r : Top G N H v d) : Top G (Th N H) H v d := SlOk.less.Top.less r fun a n h => ⟨n, h⟩
theorem Ev1.mono {M M' O O' : AS} {H H' : Hp} {v : V} {e : EV} (x : Ext G H H') (m : ∀ a, M a → M' a) (o : ∀ a, O a → O' a) (h : Ev1 G M O H v e) : Ev1 G M' O' H' v e := by
  obtain ⟨d, k⟩ := e
  cases k with
  | dat => exact (Rep.mono m h).ext x
  | new =>
    obtain ⟨c, a, e1, e2, h⟩ := h
    exact ⟨c, a, e1, o a e2, (h.mono m).ext x⟩
  | bor => exact (Top.mono m h).ext x
theorem EvL.mono {M M' O O' : AS} {H H' : Hp} (x : Ext G H H') (m : ∀ a, M a → M' a) (o : ∀ a, O a → O' a) : ∀ {es : List EV} {vs : List V}, EvL G M O H vs es → EvL G M' O' H' vs es
  | [], vs, h => by simp only [EvL] at h ⊢; exact h
  | e :: es, vs, h => by
    simp only [EvL] at h ⊢
    obtain ⟨v, t, e1, h1, h2⟩ := h
    exact ⟨v, t, e1, h1.mono x m o, EvL.mono x m o h2⟩
theorem newsOf_mem {M O : AS} {H : Hp} {w : V} : ∀ {es : List EV} {vs : List V}, EvL G M O H vs es → w ∈ newsOf vs es → ∃ a, w = .ref a ∧ O a
  | [], vs, h, hm => by cases vs <;> simp [newsOf] at hm
  | e :: es, vs, h, hm => by
    simp only [EvL] at h
    obtain ⟨v, t, rfl, h1, h2⟩ := h
    simp only [newsOf] at hm
    split at hm
    · rename_i hk
      rcases List.mem_cons.mp hm with rfl | hm
      · obtain ⟨d, k⟩ := e
        simp only at hk
        subst hk
        obtain ⟨_, a, e1, e2, _⟩ := h1
        exact ⟨a, e1, e2⟩
      · exact newsOf_mem h2 hm
    · exact newsOf_mem h2 hm
theorem EvsOk.ext {N : AS} {H H' H2 : Hp} {vs : List V} {es : List EV} (x : Ext G H' H2) (h : EvsOk G N H H' vs es) : EvsOk G N H H2 vs es := by
  obtain ⟨O, h1, h2, h3⟩ := h
  exact ⟨O, h1, h2.mono x (fun _ z => z) fun _ z => z, h3⟩
theorem evs_cons {N : AS} {H H1 H2 : Hp} {v : V} {e : EV} {vs : List V} {es : List EV} (x : Ext G H H1) (x2 : Ext G H1 H2) (o : EvOk G N H H1 v e) (o2 : EvsOk G (fun a => N a ∧ (e.k = .new → v ≠ .ref a)) H1 H2 vs es) : EvsOk G N H H2 (v :: vs) (e :: es) := by
  obtain ⟨O, h1, h2, h3⟩ := o2
  obtain ⟨d, k⟩ := e
  have hx : ∀ a, O a → H a = none := fun a z => x.live a (h1 a z)
  cases k with
  | dat =>
    refine ⟨O, hx, ?_, by simpa [newsOf] using h3⟩
    simp only [EvL]
    refine ⟨v, vs, rfl, ?_, h2.mono (Ext.refl G H2) (fun a z => ⟨z.1.elim (fun q => .inl q.1) fun q => .inr (x.live a q), z.2⟩) fun _ z => z⟩
    have q : Rep G (Nf N H) H1 v d := o
    exact ((Rep.there d v q).mono fun a z => ⟨z.1, fun y => z.2 (h1 a y)⟩).ext x2
  | bor =>
    refine ⟨O, hx, ?_, by simpa [newsOf] using h3⟩
    simp only [EvL]
    refine ⟨v, vs, rfl, ?_, h2.mono (Ext.refl G H2) (fun a z => ⟨z.1.elim (fun q => .inl q.1) fun q => .inr (x.live a q), z.2⟩) fun _ z => z⟩
    have q : Top G (Nf N H) H1 v d := o
    exact ((Top.there q).mono fun a z => ⟨z.1, fun y => z.2 (h1 a y)⟩).ext x2
  | new =>
    obtain ⟨hc, a, rfl, ha, q⟩ := o
    have ha1 : H1 a ≠ none := by
      cases d <;> simp [isCont] at hc
      · obtain ⟨b, vs, e1, _, e2, _⟩ := q; cases e1; rw [e2]; simp
      · obtain ⟨b, vs, e1, _, e2, _⟩ := q; cases e1; rw [e2]; simp
      · obtain ⟨b, vs, e1, _, e2, _⟩ := q; cases e1; rw [e2]; simp
    refine ⟨fun b => O b ∨ b = a, fun b z => z.elim (hx b) fun z => z ▸ ha, ?_, ?_⟩
    · simp only [EvL]
      refine ⟨_, vs, rfl, ⟨hc, a, rfl, .inr rfl, ?_⟩, h2.mono (Ext.refl G H2) (fun b z => ⟨z.1.elim (fun q => .inl q.1) fun q => .inr (x.live b q), fun y => y.elim z.2 fun y => ?_⟩) fun _ z => .inl z⟩
      · exact ((Top.there q).mono fun b z => ⟨z.1.1, fun y => y.elim (fun y => z.2 (h1 b y)) z.1.2⟩).ext x2
      · subst y
        exact z.1.elim (fun q => q.2 rfl rfl) ha1
    · show (newsOf (V.ref a :: vs) (⟨d, .new⟩ :: es)).Nodup
      simp only [newsOf, if_pos]
      refine List.nodup_cons.mpr ⟨fun hm => ?_, h3⟩
      obtain ⟨b, e1, e2⟩ := newsOf_mem h2 hm
      cases e1
      exact ha1 (h1 a e2)
theorem sa_cons {m : ME} {mr : MA} (ha : SE G Y X a m) (hr : SA G Y X es mr) (hs : starEach (a :: es) X.env = (false, eval a X.env) :: starEach es X.env := by rfl) : SA G Y X (a :: es) (mCons m mr) := PA.weak (pa_cons ha hr hs) fun sg H Q h => by
  obtain ⟨N, s, es, r, at_, q, k⟩ := h
  unfold mCons at q
  simp only [Option.bind_eq_some_iff, Option.map_eq_some_iff] at q
  obtain ⟨⟨p, r1⟩, h1, ⟨q1, r2⟩, h2, h3⟩ := q
  cases h3
  refine ⟨N, s, p, r1, at_, h1, fun v H1 x w o => ?_⟩
  exact ⟨_, ⟨s.sl, r1⟩, q1, r2, at_.less x w o, h2, fun vs H2 x2 w2 o2 => k (v :: vs) H2 (x.trans x2) w2 (evs_cons x x2 o o2)⟩
/-- items of a sequence that stands, then the rest -/
theorem evs_items {N : AS} {H H1 H2 : Hp} {us : List V} {es : List EV} (x : Ext G H H1) (x2 : Ext G H1 H2) (o2 : EvsOk G N H1 H2 us es) {l : List D} {vs : List V} (h : RepL G (Nf N H) H1 vs l) : EvsOk G N H H2 (vs ++ us) (l.map datE ++ es) := by
  obtain ⟨O, h1, h2, h3⟩ := o2
  refine ⟨O, fun a z => x.live a (h1 a z), ?_, ?_⟩
  · have h2' : EvL G (fun a => Nf N H a ∧ ¬ O a) O H2 us es := h2.mono (Ext.refl G H2) (fun a z => ⟨Nf.mono x a z.1, z.2⟩) fun _ z => z
    have h' : RepL G (fun a => Nf N H a ∧ ¬ O a) H2 vs l := ((RepL.there l vs h).mono fun a z => ⟨z.1, fun y => z.2 (h1 a y)⟩).ext x2
    clear h
    induction l generalizing vs with
    | nil => simp only [RepL] at h'; subst h'; exact h2'
    | cons d r ih =>
      simp only [RepL] at h'
      obtain ⟨v, t, rfl, q1, q2⟩ := h'
      simp only [List.map_cons, List.cons_append, EvL]
      exact ⟨v, t ++ us, rfl, q1, ih q2⟩
  · have hl := h.len
    clear h
    induction l generalizing vs with
    | nil => cases vs <;> simp_all
    | cons d r ih =>
      cases vs with
      | nil => simp at hl
      | cons v t => simpa [newsOf, datE] using ih (by simpa using hl)
theorem sa_star {p : Pos} {m : ME} {mr : MA} (ft : Fit G X) (ha : SE G Y X a m) (hr : SA G Y X es mr) (hs : starEach (.Starred a p :: es) X.env = (true, eval a X.env) :: starEach es X.env := by rfl) : SA G Y X (.Starred a p :: es) (mStar m mr) := PA.weak (StX.pa_star ha hr hs) fun sg H Q h => by
  obtain ⟨N, s, es, r, at_, q, k⟩ := h
  unfold mStar at q
  simp only [Option.bind_eq_some_iff, Option.map_eq_some_iff] at q
  obtain ⟨⟨p, r1⟩, h1, l, hl, ⟨q1, r2⟩, h2, h3⟩ := q
  cases h3
  refine ⟨N, s, p, r1, at_, h1, fun v H1 x w o => ?_⟩
  have o := o.top
  rw [ft.K]
  have go : ∀ (vs : List V), RepL G (Nf N H) H1 vs l → rdA G Y mr sg H1 fun ys H2 => Q (vs ++ ys) H2 := fun vs hv =>
    ⟨N, ⟨s.sl, r1⟩, q1, r2, at_.ext x w, h2, fun us H2 x2 w2 o2 => k (vs ++ us) H2 (x.trans x2) w2 (evs_items x x2 o2 hv)⟩
  obtain ⟨d, kd⟩ := p
  cases d <;> simp only [itemsD] at hl <;> cases hl
  · obtain ⟨b, vs, rfl, e2, hv⟩ := o.tup
    exact ⟨b, vs, rfl, .inl (SqT.of e2), go vs hv⟩
  · obtain ⟨b, vs, rfl, _, e2, hv⟩ := o
    exact ⟨b, vs, rfl, .inr (SqL.of e2), go vs hv⟩
/-! ### displays -/
def noBor (es : List EV) : Bool := es.all fun e => e.k != .bor
theorem EvsOk.reps {N : AS} {H H' : Hp} {vs : List V} {es : List EV} (h : EvsOk G N H H' vs es) (hb : noBor es = true) : RepL G (Nf N H) H' vs (es.map (·.d)) := by
  obtain ⟨O, h1, h2, h3⟩ := h
  clear h3
  induction es generalizing vs with
  | nil => simp only [EvL] at h2; subst h2; exact RepL.nil
  | cons e es ih =>
    simp only [EvL] at h2
    obtain ⟨v, t, rfl, q1, q2⟩ := h2
    simp only [noBor, List.all_cons, Bool.and_eq_true] at hb
    refine RepL.cons ?_ (ih hb.2 q2)
    obtain ⟨d, k⟩ := e
    cases k with
    | dat => exact Rep.mono (fun _ z => z.1) q1
    | new =>
      obtain ⟨hc, a, rfl, oa, q1⟩ := q1
      exact q1.rep (fun _ z => z.1) fun b e _ => by cases e; exact .inr (h1 a oa)
    | bor => simp at hb
def mTup (m : MA) : ME := fun s => (m s).bind fun p => if (noBor p.1 && decide (p.1.length ≤ lim)) = true then some (⟨.tup (p.1.map (·.d)), .dat⟩, p.2) else none
def mLst (m : MA) : ME := fun s => (m s).bind fun p => if (noBor p.1 && decide (p.1.length ≤ lim)) = true then some (⟨.lst (p.1.map (·.d)), .new⟩, p.2) else none
theorem se_tup {x1} {m : MA} (h : SA G Y X es m) : SE G Y X (.Tuple es x1 pos) (mTup m) := PE.weak (pe_tup h) fun sg H Q h => by
  obtain ⟨N, s, e, r, at_, q, k⟩ := h
  unfold mTup at q
  simp only [Option.bind_eq_some_iff] at q
  obtain ⟨⟨es, r1⟩, h1, h2⟩ := q
  simp only at h2
  split at h2
  · rename_i hc
    cases h2
    rw [Bool.and_eq_true, decide_eq_true_eq] at hc
    refine ⟨N, s, es, r, at_, h1, fun vs H1 x w o => ?_⟩
    have rp := o.reps hc.1
    refine ⟨lim_line (by rw [rp.len, List.length_map]; exact hc.2), fun p hp => ?_⟩
    exact k _ _ (x.trans (Ext.new hp)) ((Grow.new hp).row _ w) ((new_tup hp rp).base x)
  · cases h2
theorem se_lst {m : MA} (h : SA G Y X es m) : SE G Y X (.List es pos) (mLst m) := PE.weak (pe_lst h) fun sg H Q h => by
  obtain ⟨N, s, e, r, at_, q, k⟩ := h
  unfold mLst at q
  simp only [Option.bind_eq_some_iff] at q
  obtain ⟨⟨es, r1⟩, h1, h2⟩ := q
  simp only at h2
  split at h2
  · rename_i hc
    cases h2
    rw [Bool.and_eq_true, decide_eq_true_eq] at hc
    refine ⟨N, s, es, r, at_, h1, fun vs H1 x w o => ?_⟩
    have rp := o.reps hc.1
    refine ⟨lim_line (by rw [rp.len, List.length_map]; exact hc.2), fun p hp => ?_⟩
    exact k _ _ (x.trans (Ext.new hp)) ((Grow.new hp).row _ w) ((new_lst hp w rp).base x)
  · cases h2
end
end GD
/-! Ge -/
set_option maxHeartbeats 4000000
/-! Ge: subscripts, slices, dicts with tuple keys read. -/
namespace GD
open PySem L2
section
variable {G : GC} {Y : AS} {X : Cx} {e a b c : Expr} {es : List Expr} {pos : Pos}
theorem RepL.atI {N : AS} {H : Hp} {vs : List V} {l : List D} {i : Int} {d : D} (h : RepL G N H vs l) (q : L2.atI l i = some d) : ∃ v, L2.atI vs i = some v ∧ Rep G N H v d := by
  unfold L2.atI at q ⊢
  rw [h.len]
  obtain ⟨j, h1, h2⟩ := Option.bind_eq_some_iff.mp q
  obtain ⟨v, e1, r⟩ := h.getD h2
  exact ⟨v, by rw [h1]; exact e1, r⟩
def fIxL : D → D → Option EV
  | .lst l, .int i => (L2.atI l i).map datE
  | _, _ => none
def fIxT : D → D → Option EV
  | .tup l, .int i => (L2.atI l i).map datE
  | _, _ => none
theorem dat_ok {M : AS} {H : Hp} {v : V} {d : D} (h : Rep G M H v d) : EvOk G M H H v (datE d) := Rep.mono nf_of h
theorem opr_ixL : Opr G (rIxL G.K) fIxL := by
  intro M H v w d e x rw Q q1 q2 q3 q4 q5 k
  cases d <;> cases e <;> simp only [fIxL] at q5 <;> try cases q5
  rename_i l i
  obtain ⟨y, h1, rfl⟩ := Option.map_eq_some_iff.mp q5
  obtain ⟨p, vs, rfl, _, ea, ra⟩ := q3
  have e2 : w = .int i := by simpa only [Top, Rep] using q4
  obtain ⟨u, e3, r3⟩ := ra.atI h1
  exact ⟨p, vs, i, u, rfl, e2, SqL.of ea, e3, k _ H (Grow.refl G H) (dat_ok r3)⟩
theorem opr_ixT : Opr G (rIxT G.K) fIxT := by
  intro M H v w d e x rw Q q1 q2 q3 q4 q5 k
  cases d <;> cases e <;> simp only [fIxT] at q5 <;> try cases q5
  rename_i l i
  obtain ⟨y, h1, rfl⟩ := Option.map_eq_some_iff.mp q5
  obtain ⟨p, vs, rfl, ea, ra⟩ := q3.tup
  have e2 : w = .int i := by simpa only [Top, Rep] using q4
  obtain ⟨u, e3, r3⟩ := ra.atI h1
  exact ⟨p, vs, i, u, rfl, e2, SqT.of ea, e3, k _ H (Grow.refl G H) (dat_ok r3)⟩
theorem se_ix {r : R2} {f : D → D → Option EV} {ma mb : ME} (hr : IxR X r) (hf : Opr G r f) (ha : SE G Y X a ma) (hb : SE G Y X b mb) (hs : PlainIx b) : SE G Y X (.Subscript a b pos) (mBin f ma mb) :=
  PE.weak (pe_ix hr ha hb hs) fun _ _ _ h => rd_bin hf h
/-! ### keys -/
section
variable {pins : List (Addr × Obj)} {sg : St} {H : Hp} {s : Shared} {N : AS}
mutual
theorem Rep.nested (ft : Fit G X) (I : Inv X pins sg H s) : ∀ (d : D) (v : V) (u : Value), Rep G N H v d → keyD d = true → RelV v u → NestedIs s.heap (nk d) u
  | .non, v, u, h, _, r => by simp only [Rep] at h; subst h; cases r; exact .none
  | .bl b, v, u, h, _, r => by simp only [Rep] at h; subst h; cases r; exact .bool rfl
  | .int i, v, u, h, _, r => by simp only [Rep] at h; subst h; obtain ⟨t, rfl⟩ := r; exact .int i t
  | .row, v, u, h, c, r => by simp [keyD] at c
  | .lst _, v, u, h, c, r => by simp [keyD] at c
  | .dI _, v, u, h, c, r => by simp [keyD] at c
  | .dT _, v, u, h, c, r => by simp [keyD] at c
  | .tup l, v, u, h, c, r => by
    simp only [Rep] at h
    obtain ⟨a, vs, rfl, e, h⟩ := h
    cases r
    obtain ⟨_, its, rv, o, ho, hc, n, hd⟩ := I.hok a _ e
    exact .tup ho hc hd (RepL.nested ft I l vs its h (by simpa only [keyD] using c) rv)
theorem RepL.nested (ft : Fit G X) (I : Inv X pins sg H s) : ∀ (l : List D) (vs : List V) (us : List Value), RepL G N H vs l → keysD l = true → Vals vs us → NestedAll s.heap (nks l) us
  | [], vs, us, h, _, r => by simp only [RepL] at h; subst h; cases r; exact .nil
  | d :: t, vs, us, h, c, r => by
    simp only [RepL] at h
    obtain ⟨v, w, rfl, h1, h2⟩ := h
    simp only [keysD, Bool.and_eq_true] at c
    cases r with
    | cons r1 r2 => exact .cons (Rep.nested ft I d v _ h1 c.1 r1) (RepL.nested ft I t w _ h2 c.2 r2)
end
theorem Rep.key (ft : Fit G X) (I : Inv X pins sg H s) {d : D} {a : Addr} (h : Rep G N H (.ref a) d) (c : keyOk d = true) : (nestedKind X.prog X.w).is s.heap (nk d) a := by
  cases d <;> simp [keyOk] at c
  rename_i l
  exact ⟨Rep.nested ft I (.tup l) (.ref a) (.ref a) h (by simpa only [keyD] using c.1) rfl, c.2⟩
def RelE (p : NestedKey × Addr × V) (q : NestedKey × Addr × Value) : Prop := p.1 = q.1 ∧ p.2.1 = q.2.1 ∧ RelV p.2.2 q.2.2
/-- the dict as the library tells it -/
theorem do_at (ft : Fit G X) (I : Inv X pins sg H s) {a : Addr} {es : DE} {kvs : List (D × D)} (h : H a = some (DO G a es)) (r : RepT G N H es.2 kvs) :
    es.2.length ≤ sizeLine ∧ (a == sysModules) = false ∧ ∃ xs : List (NestedKey × Addr × Value), Paired RelE es.2 xs ∧ s.heap.DictOfH (nestedKind X.prog X.w) a xs := by
  obtain ⟨o, es⟩ := es
  obtain ⟨⟨z, y, xs, p, E, ep, h1, h2, h3, h4, h5⟩, -, -⟩ := I.hok a _ h
  rw [← ft.P, ← ft.w] at h4
  refine ⟨z, y, xs, p, o, E, ep, h1, h2, h3, h4, ?_, h5⟩
  simp only at p r
  clear h1 h2 h3 h4 h5 z h
  induction kvs generalizing es xs with
  | nil =>
    simp only [RepT] at r
    subst r
    cases p
    intro x hx
    cases hx
  | cons kv t ih =>
    obtain ⟨k, d⟩ := kv
    simp only [RepT] at r
    obtain ⟨b, v, es', rfl, c, r1, r2, r3⟩ := r
    cases p with
    | cons p1 p2 =>
      intro x hx
      rcases List.mem_cons.mp hx with rfl | hx
      · rw [← p1.1, ← p1.2.1]
        exact Rep.key ft I r1 c
      · exact ih _ r3 _ p2 x hx
end
def keq (a b : D) : Bool := decide (nk a = nk b)
def lookT (kvs : List (D × D)) (k : D) : Option D := (kvs.find? fun p => keq p.1 k).map (·.2)
theorem look_rel {N : AS} {H : Hp} {k : D} : ∀ {kvs : List (D × D)} {es : List (NestedKey × Addr × V)} {xs : List (NestedKey × Addr × Value)}, RepT G N H es kvs → Paired RelE es xs →
    (lookT kvs k = none ∧ atKey xs (nk k) = none) ∨ ∃ d v b u, lookT kvs k = some d ∧ Rep G N H v d ∧ RelV v u ∧ atKey xs (nk k) = some (b, u)
  | [], es, xs, r, p => by
    simp only [RepT] at r
    subst r
    cases p
    exact .inl ⟨rfl, rfl⟩
  | (k', d) :: t, es, xs, r, p => by
    simp only [RepT] at r
    obtain ⟨b, v, es', rfl, c, r1, r2, r3⟩ := r
    cases p with
    | @cons _ q _ xs' p1 p2 =>
      obtain ⟨q1, q2, q3⟩ := q
      obtain ⟨e1, e2, e3⟩ := p1
      simp only at e1 e2 e3
      subst e1
      by_cases hk : nk k' = nk k
      · refine .inr ⟨d, v, q2, q3, ?_, r2, e3, ?_⟩
        · simp [lookT, List.find?_cons, keq, hk]
        · simp [atKey, List.find?_cons, hk]
      · have h1 : lookT ((k', d) :: t) k = lookT t k := by simp [lookT, List.find?_cons, keq, hk]
        have h2 : atKey ((nk k', q2, q3) :: xs') (nk k) = atKey xs' (nk k) := by simp [atKey, List.find?_cons, hk]
        rw [h1, h2]
        exact look_rel r3 p2
def fIxD : D → D → Option EV
  | .dT kvs, k => if keyOk k = true then (lookT kvs k).map datE else none
  | _, _ => none
def rIxDO (G : GC) : R2 := fun x y H Q => ∃ (M : AS) (kvs : List (D × D)) (k d : D), Top G M H x (.dT kvs) ∧ Rep G M H y k ∧ keyOk k = true ∧ lookT kvs k = some d ∧ ∀ z, Rep G M H z d → Q z H
theorem key_ref {M : AS} {H : Hp} {y : V} {k : D} (h : Rep G M H y k) (c : keyOk k = true) : ∃ b, y = .ref b := by
  cases k <;> simp [keyOk] at c
  simp only [Rep] at h
  obtain ⟨a, vs, e, _⟩ := h
  exact ⟨a, e⟩
theorem ix_do {k : Nat} (ft : Fit G X) (hr : Room k X.A) : IxR X (rIxDO G) := by
  intro value slice pins s σ H x y v u Q I rx ry h hs
  obtain ⟨M, kvs, kk, d, ⟨a, es, rfl, _, e, r⟩, hy, c, hl, q⟩ := h
  obtain ⟨b, rfl⟩ := key_ref hy c
  cases rx
  cases ry
  obtain ⟨_, hm, xs, p, dd⟩ := do_at ft I e r
  rcases look_rel (k := kk) r p with ⟨z, _⟩ | ⟨d', v', b', u', h1, h2, h3, h4⟩
  · rw [hl] at z; cases z
  · rw [hl] at h1
    cases h1
    have ro : (nestedKind X.prog X.w).room X.A.in1 := by
      have := hr.un
      show X.A.in1.units + 8 < cLine
      rw [Around.in1_units]
      omega
    exact PyProof.Rows.tail_any dd.typeIs PySem.F.slot_dict_getitem.lookup (wpAny_getItem_heap ro (Rep.key ft I hy c) dd h4 ⟨v', H, I.tok _, h3, q v' h2⟩) hs
theorem opr_ixD : Opr G (rIxDO G) fIxD := by
  intro M H v w d e x rw Q q1 q2 q3 q4 q5 k
  cases d <;> simp only [fIxD] at q5 <;> try cases q5
  rename_i kvs
  split at q5
  · rename_i hc
    obtain ⟨y, h1, rfl⟩ := Option.map_eq_some_iff.mp q5
    have hk : Rep G M H w e := by
      cases e <;> simp [keyOk] at hc
      exact q4
    exact ⟨M, kvs, e, y, q3, hk, hc, h1, fun z hz => k z H (Grow.refl G H) (dat_ok hz)⟩
  · cases q5
/-- k in d, k not in d -/
def fInD (neg : Bool) (k : D) : D → Option EV
  | .dT kvs => if keyOk k = true then some (evB (neg != (lookT kvs k).isSome)) else none
  | _ => none
def rInDO (G : GC) (neg : Bool) : R2 := fun x y H Q => ∃ (M : AS) (kvs : List (D × D)) (k : D), Top G M H y (.dT kvs) ∧ Rep G M H x k ∧ keyOk k = true ∧ Q (.bl (neg != (lookT kvs k).isSome)) H
theorem in_do_core {k : Nat} (ft : Fit G X) (hr : Room k X.A) {pins : List (Addr × Obj)} {s : Shared} {σ : St} {H : Hp} {y : V} {v u : Value} {M : AS} {kvs : List (D × D)} {kk : D} {x : V} (I : Inv X pins σ H s) (rx : RelV x v) (ry : RelV y u) (h : Top G M H y (.dT kvs)) (hk : Rep G M H x kk) (c : keyOk kk = true) :
    ∃ b d xs, v = .ref b ∧ u = .ref d ∧ (d == sysModules) = false ∧ (nestedKind X.prog X.w).room X.A.in1 ∧ (nestedKind X.prog X.w).is s.heap (nk kk) b ∧ s.heap.DictOfH (nestedKind X.prog X.w) d xs ∧ (atKey xs (nk kk)).isSome = (lookT kvs kk).isSome := by
  obtain ⟨a, es, rfl, _, e, r⟩ := h
  obtain ⟨b, rfl⟩ := key_ref hk c
  cases rx
  cases ry
  obtain ⟨_, hm, xs, p, dd⟩ := do_at ft I e r
  refine ⟨b, a, xs, rfl, rfl, hm, ?_, Rep.key ft I hk c, dd, ?_⟩
  · have := hr.un
    show X.A.in1.units + 8 < cLine
    rw [Around.in1_units]
    omega
  · rcases look_rel (k := kk) r p with ⟨z, z2⟩ | ⟨d', v', b', u', h1, h2, h3, h4⟩
    · rw [z, z2]; rfl
    · rw [h1, h4]; rfl
theorem op_inDO {k : Nat} (ft : Fit G X) (hr : Room k X.A) : OpR X (compareOp .In) (rInDO G false) := by
  intro pins s σ H x y v u Q I rx ry ⟨M, kvs, kk, h1, h2, c, q⟩
  obtain ⟨b, d, xs, rfl, rfl, hm, ro, hk, dd, e⟩ := in_do_core ft hr I rx ry h1 h2 c
  refine wpAny_in_heap ro hk hm dd ⟨.bl _, H, I.tok _, rfl, ?_⟩
  rw [e]
  simpa using q
theorem op_notInDO {k : Nat} (ft : Fit G X) (hr : Room k X.A) : OpR X (compareOp .NotIn) (rInDO G true) := by
  intro pins s σ H x y v u Q I rx ry ⟨M, kvs, kk, h1, h2, c, q⟩
  obtain ⟨b, d, xs, rfl, rfl, hm, ro, hk, dd, e⟩ := in_do_core ft hr I rx ry h1 h2 c
  show wpAny _ _ (do return Value.bool (!(← contains (.ref d) (.ref b)))) _ _ s
  refine wpAny_bind (wpAny_contains_heap ro hk hm dd (wpAny_pure ⟨.bl _, H, I.tok _, rfl, ?_⟩))
  rw [e]
  simpa using q
theorem opr_inD {neg : Bool} : Opr G (rInDO G neg) (fInD neg) := by
  intro M H v w d e x rw Q q1 q2 q3 q4 q5 k
  cases e <;> simp only [fInD] at q5 <;> try cases q5
  rename_i kvs
  split at q5
  · rename_i hc
    cases q5
    have hk : Rep G M H v d := by
      cases d <;> simp [keyOk] at hc
      exact q3
    exact ⟨M, kvs, d, q4, hk, hc, k _ H (Grow.refl G H) ok_bl⟩
  · cases q5
/-! ### slices -/
abbrev MO := MS → Option (Option Int × Rw)
def rdO (G : GC) (Y : AS) (m : MO) : TO := fun sg H Q => ∃ N s b r, At G Y N sg H s ∧ m s = some (b, r) ∧ ∀ H', Ext G H H' → RowAt G H' r → Q b H'
theorem PO.weak {X : Cx} {e : Option Expr} {t u : TO} (h : PO X e t) (w : ∀ sg H Q, u sg H Q → t sg H Q) : PO X e u := ⟨fun pins s sg H Q I q => h.run pins s sg H Q I (w sg H Q q)⟩
abbrev SO (G : GC) (Y : AS) (X : Cx) (e : Option Expr) (m : MO) : Prop := PO X e (rdO G Y m)
def mONone : MO := fun s => some (none, s.rw)
def mOSome (m : ME) : MO := fun s => (m s).bind fun p => match p.1.d with
  | .int i => some (some i, p.2)
  | _ => none
theorem so_none : SO G Y X none mONone := PO.weak po_none fun sg H Q h => by
  obtain ⟨N, s, b, r, at_, q, k⟩ := h
  cases q
  exact k H (Ext.refl G H) at_.row
theorem so_some {m : ME} (h : SE G Y X a m) : SO G Y X (some a) (mOSome m) := PO.weak (po_some h) fun sg H Q h => by
  obtain ⟨N, s, b, r, at_, q, k⟩ := h
  unfold mOSome at q
  simp only [Option.bind_eq_some_iff] at q
  obtain ⟨⟨⟨d, kd⟩, r1⟩, h1, h2⟩ := q
  cases d <;> simp at h2
  obtain ⟨rfl, rfl⟩ := h2
  exact ⟨N, s, _, _, at_, h1, fun v H1 x w o => ⟨_, ev_int o, k H1 x w⟩⟩
def cutD (l : List D) (lo hi : Option Int) : List D := (l.drop (HT.sIx l.length 0 lo)).take (HT.sIx l.length l.length hi - HT.sIx l.length 0 lo)
def mSl (f : D → Option Int → Option Int → Option EV) (a : ME) (lo hi : MO) : ME := fun s => (a s).bind fun p => (lo ⟨s.sl, p.2⟩).bind fun q => (hi ⟨s.sl, q.2⟩).bind fun w => (f p.1.d q.1 w.1).map fun e => (e, w.2)
def fSlT (d : D) (lo hi : Option Int) : Option EV := match d with
  | .tup l => some (datE (.tup (cutD l lo hi)))
  | _ => none
def fSlL (d : D) (lo hi : Option Int) : Option EV := match d with
  | .lst l => some ⟨.lst (cutD l lo hi), .new⟩
  | _ => none
theorem RepL.cut {N : AS} {H : Hp} {vs : List V} {l : List D} (h : RepL G N H vs l) (lo hi : Option Int) : RepL G N H (cutV vs lo hi) (cutD l lo hi) := by
  unfold cutV cutD
  rw [h.len]
  exact (h.drop _).take _
theorem se_slT {x1 : Pos} {p2 : Pos} {lo hi : Option Expr} {m : ME} {ml mh : MO} (ft : Fit G X) (ha : SE G Y X a m) (hl : SO G Y X lo ml) (hh : SO G Y X hi mh) : SE G Y X (.Subscript a (.Slice lo hi none p2) pos) (mSl fSlT m ml mh) := PE.weak (pe_slice sl_tupA ha hl hh) fun sg H Q h => by
  obtain ⟨N, s, e, r, at_, q, k⟩ := h
  unfold mSl at q
  simp only [Option.bind_eq_some_iff, Option.map_eq_some_iff] at q
  obtain ⟨⟨⟨d, kd⟩, r1⟩, h1, ⟨l1, r2⟩, h2, ⟨l2, r3⟩, h3, e1, h4, h5⟩ := q
  cases h5
  cases d <;> simp only [fSlT] at h4 <;> cases h4
  rename_i l
  refine ⟨N, s, _, r1, at_, h1, fun v H1 x1 w1 o1 => ⟨N, ⟨s.sl, r1⟩, l1, r2, at_.ext x1 w1, h2, fun H2 x2 w2 => ⟨N, ⟨s.sl, r2⟩, l2, r3, at_.ext (x1.trans x2) w2, h3, fun H3 x3 w3 => ?_⟩⟩⟩
  have x := (x1.trans x2).trans x3
  obtain ⟨a, vs, rfl, ea, ra⟩ := ((o1.top.ext x2).ext x3).tup
  rw [ft.K]
  refine ⟨a, vs, rfl, SqT.of ea, fun hw => ?_, fun _ p hp => ?_⟩
  · have e : cutD l l1 l2 = l := by
      unfold cutD
      rw [← ra.len, hw.1, hw.2]
      simp [ra.len]
    rw [e] at k
    exact k _ H3 x w3 ((tup_ok ea (ra.mono nf_of)).base x)
  · exact k _ _ (x.trans (Ext.new hp)) ((Grow.new hp).row _ w3) ((new_tup hp (ra.cut l1 l2)).base x)
theorem se_slL {p2 : Pos} {lo hi : Option Expr} {m : ME} {ml mh : MO} (ft : Fit G X) (ha : SE G Y X a m) (hl : SO G Y X lo ml) (hh : SO G Y X hi mh) : SE G Y X (.Subscript a (.Slice lo hi none p2) pos) (mSl fSlL m ml mh) := PE.weak (pe_slice sl_list ha hl hh) fun sg H Q h => by
  obtain ⟨N, s, e, r, at_, q, k⟩ := h
  unfold mSl at q
  simp only [Option.bind_eq_some_iff, Option.map_eq_some_iff] at q
  obtain ⟨⟨⟨d, kd⟩, r1⟩, h1, ⟨l1, r2⟩, h2, ⟨l2, r3⟩, h3, e1, h4, h5⟩ := q
  cases h5
  cases d <;> simp only [fSlL] at h4 <;> cases h4
  rename_i l
  refine ⟨N, s, _, r1, at_, h1, fun v H1 x1 w1 o1 => ⟨N, ⟨s.sl, r1⟩, l1, r2, at_.ext x1 w1, h2, fun H2 x2 w2 => ⟨N, ⟨s.sl, r2⟩, l2, r3, at_.ext (x1.trans x2) w2, h3, fun H3 x3 w3 => ?_⟩⟩⟩
  have x := (x1.trans x2).trans x3
  obtain ⟨a, vs, rfl, _, ea, ra⟩ := (o1.top.ext x2).ext x3
  rw [ft.K]
  refine ⟨a, vs, rfl, SqL.of ea, fun p hp => ?_⟩
  exact k _ _ (x.trans (Ext.new hp)) ((Grow.new hp).row _ w3) ((new_lst hp w3 (ra.cut l1 l2)).base x)
end
end GD
/-! Gf -/
set_option maxHeartbeats 4000000
/-! Gf: calls of built-ins, of the program's defs. -/
namespace GD
open PySem L2
/-! ### sorting, by insertion -/
section
variable {α : Type} (le : α → α → Bool)
def ins (a : α) : List α → List α
  | [] => [a]
  | b :: r => if le a b = true then a :: b :: r else b :: ins a r
def isort : List α → List α
  | [] => []
  | a :: l => ins le a (isort l)
theorem ins_app {a : α} : ∀ {l m : List α}, (∀ b ∈ l, (!le a b) = true) → ins le a (l ++ m) = l ++ ins le a m
  | [], m, _ => rfl
  | b :: l, m, h => by
    have h1 := h b List.mem_cons_self
    have h2 : ¬ le a b = true := by simpa using h1
    show (if le a b = true then a :: b :: (l ++ m) else b :: ins le a (l ++ m)) = b :: (l ++ ins le a m)
    rw [if_neg h2, ins_app fun c hc => h c (List.mem_cons_of_mem _ hc)]
theorem isort_eq (tr : ∀ a b c, le a b = true → le b c = true → le a c = true) (to : ∀ a b, (le a b || le b a) = true) : ∀ l : List α, isort le l = l.mergeSort le
  | [] => by simp [isort]
  | a :: l => by
    obtain ⟨l1, l2, h1, h2, h3⟩ := List.mergeSort_cons (le := le) tr to a l
    have hs := List.pairwise_mergeSort (le := le) tr to (a :: l)
    rw [h1] at hs ⊢
    show ins le a (isort le l) = _
    rw [isort_eq tr to l, h2, ins_app le h3]
    congr 1
    cases l2 with
    | nil => rfl
    | cons b r =>
      have : le a b = true := by
        rw [List.pairwise_append] at hs
        have := List.pairwise_cons.mp hs.2.1
        exact this.1 b List.mem_cons_self
      show (if le a b = true then a :: b :: r else b :: ins le a r) = _
      rw [if_pos this]
end
def leD : D → D → Bool := PySem.W.dataLe false py
theorem sort_eq (l : List D) : isort leD l = l.mergeSort (PySem.W.dataLe false py) := by
  have t : PySem.W.TotalLe leD := by unfold leD PySem.W.dataLe; exact PySem.W.sortLe_total _ _ _
  exact isort_eq leD (fun a b c => t.trans a b c) (fun a b => by have := t.total a b; rcases this with h | h <;> simp [h]) l
section
variable {G : GC} {Y : AS} {X : Cx} {e a b c : Expr} {es : List Expr} {pos : Pos}
/-! ### calls by values -/
def TopL (G : GC) (M : AS) (H : Hp) : List V → List D → Prop
  | vs, [] => vs = []
  | vs, d :: r => ∃ v t, vs = v :: t ∧ Top G M H v d ∧ TopL G M H t r
theorem Ev1.top {M O : AS} {H : Hp} {v : V} {e : EV} (h : Ev1 G M O H v e) : Top G M H v e.d := by
  obtain ⟨d, k⟩ := e
  cases k with
  | dat => exact Rep.top h
  | new => obtain ⟨_, a, _, _, h⟩ := h; exact h
  | bor => exact h
theorem EvsOk.tops {N : AS} {H H' : Hp} {vs : List V} {es : List EV} (h : EvsOk G N H H' vs es) : TopL G (Nf N H) H' vs (es.map (·.d)) := by
  obtain ⟨O, _, h2, h3⟩ := h
  clear h3
  induction es generalizing vs with
  | nil => simp only [EvL] at h2; subst h2; simp only [List.map_nil, TopL]
  | cons e es ih =>
    simp only [EvL] at h2
    obtain ⟨v, t, rfl, q1, q2⟩ := h2
    simp only [List.map_cons, TopL]
    exact ⟨v, t, rfl, q1.top.mono fun _ z => z.1, ih q2⟩
abbrev RC := List V → Hp → VK → Prop
def Clr (G : GC) (r : RC) (f : List D → Option EV) : Prop := ∀ (M : AS) (H : Hp) (vs : List V) (ds : List D) (x : EV) (rw : Rw) (Q : VK), RowAt G H rw → ¬ M G.ro → TopL G M H vs ds → f ds = some x →
  (∀ z H', Grow G H H' → EvOk G M H H' z x → Q z H') → r vs H Q
def mCall (f : List D → Option EV) (m : MA) : ME := fun s => (m s).bind fun p => (f (p.1.map (·.d))).map fun e => (e, p.2)
theorem rd_call {r : RC} {f : List D → Option EV} {m : MA} (hr : Clr G r f) {sg : St} {H : Hp} {Q : VK} (h : rdE G Y (mCall f m) sg H Q) : tCB r (rdA G Y m) sg H Q := by
  obtain ⟨N, s, e, rw, at_, q, k⟩ := h
  unfold mCall at q
  simp only [Option.bind_eq_some_iff, Option.map_eq_some_iff] at q
  obtain ⟨⟨es, r1⟩, h1, e1, h2, h3⟩ := q
  cases h3
  refine ⟨N, s, es, r1, at_, h1, fun vs H1 x w o => ?_⟩
  exact hr (Nf N H) H1 vs _ e r1 Q w (nro_nf at_.nro at_.row) o.tops h2 fun z H2 g o2 => k z H2 (x.trans g.ext) (g.row _ w) (o2.base x)
theorem se_callB {id : String} {x : Str} {r : RC} {f : List D → Option EV} {m : MA} {p : Pos} (hc : CallR X (.builtin id) r) (hf : Clr G r f) (hg : Gl X x) (hm : X.mg x = none) (hv : bootBuiltins x = some (.builtin id)) (ha : SA G Y X (a :: es) m) (hn : x ≠ "__name__" := by decide) (hdb : (x == ("__debug__" : Str)) = false := by decide)
    (he : starEach (a :: es) X.env = (false, eval a X.env) :: starEach es X.env := by rfl) (hst : (backTo pos (starEach es X.env)).any (·.1) = false := by rfl) : SE G Y X (.Call (.Name x p) (a :: es) [] pos) (mCall f m) :=
  PE.weak (pe_callB hc hg hm hv ha hn hdb he hst) fun _ _ _ h => rd_call hf h
theorem se_callTy {T : String} {x : Str} {r : RC} {f : List D → Option EV} {m : MA} {p : Pos} (hc : CallR X (.type T) r) (hf : Clr G r f) (hg : Gl X x) (hm : X.mg x = none) (hv : bootBuiltins x = some (.type T)) (ha : SA G Y X (a :: es) m) (hn : x ≠ "__name__" := by decide) (hdb : (x == ("__debug__" : Str)) = false := by decide)
    (he : starEach (a :: es) X.env = (false, eval a X.env) :: starEach es X.env := by rfl) (hst : (backTo pos (starEach es X.env)).any (·.1) = false := by rfl) : SE G Y X (.Call (.Name x p) (a :: es) [] pos) (mCall f m) :=
  PE.weak (pe_callTy hc hg hm hv ha hn hdb he hst) fun _ _ _ h => rd_call hf h
theorem Clr.or {r r' : RC} {f g : List D → Option EV} (h : Clr G r f) (h' : Clr G r' g) : Clr G (fun xs H Q => r xs H Q ∨ r' xs H Q) (fun a => (f a).or (g a)) := by
  intro M H vs ds x rw Q q1 q2 q3 q5 k
  have q5 : (f ds).or (g ds) = some x := q5
  cases hf : f ds with
  | some y =>
    rw [hf] at q5
    cases q5
    exact .inl (h M H vs ds _ rw Q q1 q2 q3 hf k)
  | none =>
    rw [hf] at q5
    exact .inr (h' M H vs ds x rw Q q1 q2 q3 q5 k)
theorem TopL.one {M : AS} {H : Hp} {vs : List V} {d : D} (h : TopL G M H vs [d]) : ∃ v, vs = [v] ∧ Top G M H v d := by
  simp only [TopL] at h
  obtain ⟨v, t, rfl, h, rfl⟩ := h
  exact ⟨v, rfl, h⟩
def f1 (g : D → Option EV) : List D → Option EV
  | [d] => g d
  | _ => none
theorem f1_some {g : D → Option EV} {ds : List D} {x : EV} (h : f1 g ds = some x) : ∃ d, ds = [d] ∧ g d = some x := by
  cases ds with
  | nil => simp [f1] at h
  | cons d r =>
    cases r with
    | nil => exact ⟨d, rfl, h⟩
    | cons _ _ => simp [f1] at h
/-- one argument -/
def Cl1 (G : GC) (r : RC) (g : D → Option EV) : Prop := ∀ (M : AS) (H : Hp) (v : V) (d : D) (x : EV) (rw : Rw) (Q : VK), RowAt G H rw → ¬ M G.ro → Top G M H v d → g d = some x → (∀ z H', Grow G H H' → EvOk G M H H' z x → Q z H') → r [v] H Q
theorem Cl1.clr {r : RC} {g : D → Option EV} (h : Cl1 G r g) : Clr G r (f1 g) := by
  intro M H vs ds x rw Q q1 q2 q3 q5 k
  obtain ⟨d, rfl, q⟩ := f1_some q5
  obtain ⟨v, rfl, t⟩ := q3.one
  exact h M H v d x rw Q q1 q2 t q k
def gLen : D → Option EV
  | .tup l => some (evI l.length)
  | .lst l => some (evI l.length)
  | _ => none
theorem clr_len : Clr G (fun xs H Q => ∃ x n, xs = [x] ∧ LenV G.K x H n ∧ Q (.int n) H) (f1 gLen) := Cl1.clr fun M H v d x rw Q q1 q2 q3 q5 k => by
  cases d <;> simp only [gLen] at q5 <;> cases q5
  · obtain ⟨a, vs, rfl, e, r⟩ := q3.tup
    refine ⟨_, vs.length, rfl, .inr ⟨vs, SqT.of e, rfl⟩, ?_⟩
    rw [r.len]
    exact k _ H (Grow.refl G H) ok_int
  · obtain ⟨a, vs, rfl, _, e, r⟩ := q3
    refine ⟨_, vs.length, rfl, .inl ⟨vs, SqL.of e, rfl⟩, ?_⟩
    rw [r.len]
    exact k _ H (Grow.refl G H) ok_int
def gInt : D → Option EV
  | .int i => some (evI i)
  | .bl b => some (evI (if b then 1 else 0))
  | _ => none
theorem clr_int : Clr G (fun xs H Q => (∃ i, xs = [.int i] ∧ Q (.int i) H) ∨ ∃ k, xs = [.bl k] ∧ Q (.int (if k then 1 else 0)) H) (f1 gInt) := Cl1.clr fun M H v d x rw Q q1 q2 q3 q5 k => by
  cases d <;> simp only [gInt] at q5 <;> cases q5
  · rename_i b
    have : v = .bl b := by simpa only [Top, Rep] using q3
    subst this
    exact .inr ⟨b, rfl, k _ H (Grow.refl G H) ok_int⟩
  · rename_i i
    have : v = .int i := by simpa only [Top, Rep] using q3
    subst this
    exact .inl ⟨i, rfl, k _ H (Grow.refl G H) ok_int⟩
/-- a row of ints -/
def intsD : List D → Option (List Int)
  | [] => some []
  | .int i :: r => (intsD r).map (i :: ·)
  | _ => none
theorem intsD_rep {N : AS} {H : Hp} : ∀ {l : List D} {ns : List Int} {vs : List V}, intsD l = some ns → RepL G N H vs l → vs = ns.map V.int
  | [], ns, vs, h, r => by simp only [RepL] at r; subst r; cases h; rfl
  | d :: t, ns, vs, h, r => by
    cases d <;> simp only [intsD] at h <;> try cases h
    obtain ⟨ms, h1, rfl⟩ := Option.map_eq_some_iff.mp h
    simp only [RepL] at r
    obtain ⟨v, w, rfl, r1, r2⟩ := r
    simp only [Rep] at r1
    subst r1
    rw [intsD_rep h1 r2]
    rfl
def gSum : D → Option EV
  | .lst l => (intsD l).map fun ns => evI ns.sum
  | _ => none
theorem clr_sum : Clr G (rSum G.K) (f1 gSum) := Cl1.clr fun M H v d x rw Q q1 q2 q3 q5 k => by
  cases d <;> simp only [gSum] at q5 <;> try cases q5
  obtain ⟨ns, h1, rfl⟩ := Option.map_eq_some_iff.mp q5
  obtain ⟨a, vs, rfl, _, e, r⟩ := q3
  rw [intsD_rep h1 r] at e
  exact ⟨a, ns, rfl, SqL.of e, k _ H (Grow.refl G H) ok_int⟩
def maxI : List Int → Option Int
  | [] => none
  | i :: r => match maxI r with
    | none => some i
    | some m => some (if i ≤ m then m else i)
theorem maxI_spec : ∀ {l : List Int} {m : Int}, m ∈ l → (∀ y ∈ l, y ≤ m) → maxI l = some m
  | [], m, h, _ => by cases h
  | i :: r, m, h, g => by
    have hi := g i List.mem_cons_self
    cases hr : maxI r with
    | none =>
      have : r = [] := by
        cases r with
        | nil => rfl
        | cons j t => simp only [maxI] at hr; split at hr <;> cases hr
      subst this
      simp only [maxI]
      rcases List.mem_cons.mp h with rfl | h
      · rfl
      · cases h
    | some n =>
      simp only [maxI, hr]
      rcases List.mem_cons.mp h with rfl | h
      · have := (maxI_mem hr).1
        have := g n (List.mem_cons_of_mem _ this)
        congr 1
        split <;> omega
      · have e := maxI_spec h fun y hy => g y (List.mem_cons_of_mem _ hy)
        rw [hr] at e
        cases e
        congr 1
        rw [if_pos hi]
where
  maxI_mem : ∀ {l : List Int} {m : Int}, maxI l = some m → m ∈ l ∧ ∀ y ∈ l, y ≤ m
  | [], m, h => by cases h
  | i :: r, m, h => by
    simp only [maxI] at h
    cases hr : maxI r with
    | none =>
      rw [hr] at h
      cases h
      have : r = [] := by
        cases r with
        | nil => rfl
        | cons j t => simp only [maxI] at hr; split at hr <;> cases hr
      subst this
      exact ⟨List.mem_cons_self, fun y hy => by rcases List.mem_cons.mp hy with rfl | hy; exact Int.le_refl _; cases hy⟩
    | some n =>
      rw [hr] at h
      obtain ⟨h1, h2⟩ := maxI_mem hr
      cases h
      by_cases hin : i ≤ n
      · simp only [if_pos hin]
        exact ⟨List.mem_cons_of_mem _ h1, fun y hy => by rcases List.mem_cons.mp hy with rfl | hy; exact hin; exact h2 y hy⟩
      · simp only [if_neg hin]
        exact ⟨List.mem_cons_self, fun y hy => by rcases List.mem_cons.mp hy with rfl | hy; exact Int.le_refl _; have := h2 y hy; omega⟩
def gMax : D → Option EV
  | .lst l => (intsD l).bind fun ns => (maxI ns).map evI
  | _ => none
theorem clr_max : Clr G (rMax G.K) (f1 gMax) := Cl1.clr fun M H v d x rw Q q1 q2 q3 q5 k => by
  cases d <;> simp only [gMax] at q5 <;> try cases q5
  obtain ⟨ns, h1, h2⟩ := Option.bind_eq_some_iff.mp q5
  obtain ⟨m, h3, rfl⟩ := Option.map_eq_some_iff.mp h2
  obtain ⟨a, vs, rfl, _, e, r⟩ := q3
  rw [intsD_rep h1 r] at e
  refine ⟨a, ns, rfl, SqL.of e, ?_, fun n hn hg => ?_⟩
  · cases ns with
    | nil => cases h3
    | cons _ _ => simp
  · rw [maxI_spec hn hg] at h3
    cases h3
    exact k _ H (Grow.refl G H) ok_int
/-- list(a list or tuple), tuple(..) -/
def gList : D → Option EV
  | .tup l => some ⟨.lst l, .new⟩
  | .lst l => some ⟨.lst l, .new⟩
  | _ => none
theorem clr_list : Clr G (fun xs H Q => ∃ p ys, xs = [.ref p] ∧ (SqL G.K H p ys ∨ SqT G.K H p ys) ∧ ∀ l, H l = none → Q (.ref l) (upd H l (.lst ys))) (f1 gList) := Cl1.clr fun M H v d x rw Q q1 q2 q3 q5 k => by
  cases d <;> simp only [gList] at q5 <;> cases q5
  · obtain ⟨a, vs, rfl, e, r⟩ := q3.tup
    exact ⟨a, vs, rfl, .inr (SqT.of e), fun p hp => k _ _ (Grow.new hp) (new_lst hp q1 r)⟩
  · obtain ⟨a, vs, rfl, _, e, r⟩ := q3
    exact ⟨a, vs, rfl, .inl (SqL.of e), fun p hp => k _ _ (Grow.new hp) (new_lst hp q1 r)⟩
def gTuple : D → Option EV
  | .tup l => some (datE (.tup l))
  | .lst l => some (datE (.tup l))
  | _ => none
theorem clr_tuple : Clr G (fun xs H Q => ∃ p ys, xs = [.ref p] ∧ ((SqL G.K H p ys ∧ ∀ l, H l = none → Q (.ref l) (upd H l (.tup ys))) ∨ (SqT G.K H p ys ∧ Q (.ref p) H))) (f1 gTuple) := Cl1.clr fun M H v d x rw Q q1 q2 q3 q5 k => by
  cases d <;> simp only [gTuple] at q5 <;> cases q5
  · obtain ⟨a, vs, rfl, e, r⟩ := q3.tup
    exact ⟨a, vs, rfl, .inr ⟨SqT.of e, k _ _ (Grow.refl G H) (tup_ok e (r.mono nf_of))⟩⟩
  · obtain ⟨a, vs, rfl, _, e, r⟩ := q3
    exact ⟨a, vs, rfl, .inl ⟨SqL.of e, fun p hp => k _ _ (Grow.new hp) (new_tup hp r)⟩⟩
/-- list(d), d a dict of ints -/
def gListI : D → Option EV
  | .dI l => some ⟨.lst (l.map fun p => .int p.1), .new⟩
  | _ => none
theorem RepI.keys {N : AS} {H : Hp} : ∀ {l : List (Int × D)} {ks : List (Key × V)}, RepI G N H ks l → RepL G N H (ks.map fun kv => kV kv.1) (l.map fun p => .int p.1)
  | [], ks, h => by simp only [RepI] at h; subst h; exact RepL.nil
  | (i, d) :: r, ks, h => by
    simp only [RepI] at h
    obtain ⟨v, t, rfl, _, h2⟩ := h
    exact RepL.cons (by simp only [Rep, kV]) (RepI.keys h2)
theorem clr_listI : Clr G (fun xs H Q => ∃ (a : Addr) (kvs : List (Key × V)), xs = [.ref a] ∧ Rd H a (.dK kvs) ∧ ∀ p, H p = none → Q (.ref p) (upd H p (.lst (kvs.map fun kv => kV kv.1)))) (f1 gListI) := Cl1.clr fun M H v d x rw Q q1 q2 q3 q5 k => by
  cases d <;> simp only [gListI] at q5 <;> cases q5
  obtain ⟨a, ks, rfl, _, e, r⟩ := q3
  exact ⟨a, ks, rfl, .inl e, fun p hp => k _ _ (Grow.new hp) (new_lst hp q1 (RepI.keys r))⟩
/-! ### sorted -/
def tupNE : D → Bool
  | .tup (_ :: _) => true
  | _ => false
def isI : D → Bool
  | .int _ => true
  | _ => false
def sortable (l : List D) : Bool := (l.all tupNE || l.all isI) && (l.all fun a => l.all fun b => PySem.W.alike (py a) (py b)) && (l.all fun a => shp a && decide ((py a).depth ≤ 8))
def gSorted : D → Option EV
  | .lst l => if (sortable l && decide (l.length ≤ lim)) = true then some ⟨.lst (isort leD l), .new⟩ else none
  | _ => none
def rSortD (G : GC) : RC := fun vs H Q => ∃ (M : AS) (v : V) (l : List D), vs = [v] ∧ Top G M H v (.lst l) ∧ (sortable l && decide (l.length ≤ lim)) = true ∧ ∀ p xs, H p = none → RepL G M H xs (isort leD l) → Q (.ref p) (upd H p (.lst xs))
theorem each_vals {N : AS} {H : Hp} : ∀ {ds : List D} {us : List Value}, PySem.W.EachIs (fun u d => ∃ x, RelV x u ∧ Rep G N H x d) us ds → ∃ xs, Vals xs us ∧ RepL G N H xs ds
  | [], us, h => by cases h; exact ⟨[], .nil, RepL.nil⟩
  | d :: r, us, h => by
    cases h with
    | cons h1 h2 =>
      obtain ⟨x, r1, r2⟩ := h1
      obtain ⟨xs, q1, q2⟩ := each_vals h2
      exact ⟨x :: xs, .cons r1 q1, RepL.cons r2 q2⟩
theorem vals_each {N : AS} {H : Hp} : ∀ {ds : List D} {xs : List V} {us : List Value}, RepL G N H xs ds → Vals xs us → PySem.W.EachIs (fun u d => ∃ x, RelV x u ∧ Rep G N H x d) us ds
  | [], xs, us, h, r => by simp only [RepL] at h; subst h; cases r; exact .nil
  | d :: t, xs, us, h, r => by
    simp only [RepL] at h
    obtain ⟨v, w, rfl, h1, h2⟩ := h
    cases r with
    | cons r1 r2 => exact .cons ⟨v, r1, h1⟩ (vals_each h2 r2)
theorem isort_len {α : Type} (le : α → α → Bool) : ∀ l : List α, (isort le l).length = l.length
  | [] => rfl
  | a :: l => by
    have h : ∀ (a : α) (m : List α), (ins le a m).length = m.length + 1 := fun a m => by
      induction m with
      | nil => rfl
      | cons b r ih => simp only [ins]; split <;> simp [ih]
    show (ins le a (isort le l)).length = _
    rw [h, isort_len le l]
    rfl
theorem cr_sortD {k : Nat} (ft : Fit G X) (hr : Room k X.A) : CallR X (.builtin "sorted") (rSortD G) := by
  intro pins s σ H vs us Q I r h
  obtain ⟨M, v, l, rfl, ⟨a, xs, rfl, _, e, rl⟩, hs, q⟩ := h
  rw [Vals.ref1 r]
  obtain ⟨its, rv, hl, hz⟩ := I.list (SqL.of e)
  simp only [sortable, Bool.and_eq_true, decide_eq_true_eq] at hs
  obtain ⟨⟨⟨h1, h2⟩, h3⟩, h4⟩ := hs
  have ea := vals_each rl rv
  have hu := hr.un
  have h3' : ∀ d ∈ l, shp d = true ∧ (py d).depth ≤ 8 := fun d hd => by
    have := List.all_eq_true.mp h3 d hd
    simpa only [Bool.and_eq_true, decide_eq_true_eq] using this
  have key : ∀ {ds : List D} {us : List Value}, (∀ d ∈ ds, shp d = true) → PySem.W.EachIs (fun u d => ∃ x, RelV x u ∧ Rep G M H x d) us ds → PySem.W.EachIs (fun v b => ∃ as, Reads s.heap v (py b) as) us ds := by
    intro ds us hd h
    induction h with
    | nil => exact .nil
    | cons h1 _ ih =>
      obtain ⟨x, r1, r2⟩ := h1
      refine .cons ?_ (ih fun d hd' => hd d (List.mem_cons_of_mem _ hd'))
      have dp := Rep.dp _ x r2 (shp_lay (hd _ List.mem_cons_self))
      rw [← ft.K] at dp
      exact Dp.reads I _ _ _ dp r1
  refine PySem.W.sorted_data (bs := l) (enc := py) hl.isList ea (key (fun d hd => (h3' d hd).1) ea) ?_ ?_ (lim_line h4) (fun b hb => ?_) fun out ho he => ?_
  · intro d hd d' hd'
    obtain ⟨x, hx, rfl⟩ := List.mem_map.mp hd
    obtain ⟨y, hy, rfl⟩ := List.mem_map.mp hd'
    exact List.all_eq_true.mp (List.all_eq_true.mp h2 x hx) y hy
  · rcases Bool.or_eq_true_iff.mp h1 with h1 | h1
    · refine .inl fun d hd => ?_
      obtain ⟨x, hx, rfl⟩ := List.mem_map.mp hd
      have := List.all_eq_true.mp h1 x hx
      cases x <;> simp [tupNE] at this
      rename_i t
      cases t with
      | nil => simp [tupNE] at this
      | cons y r => exact ⟨py y, pys r, by simp only [py, pys]⟩
    · refine .inr fun d hd => ?_
      obtain ⟨x, hx, rfl⟩ := List.mem_map.mp hd
      have := List.all_eq_true.mp h1 x hx
      cases x <;> simp [isI] at this
      simp [py]
  · have := (h3' b hb).2
    omega
  · rw [← sort_eq] at he
    obtain ⟨ys, r1, r2⟩ := each_vals he
    obtain ⟨ep, he'⟩ := PyProof.Rows.sortedAll_at s.heap its out.toArray
    have hlen : ys.length ≤ sizeLine := by rw [r2.len, isort_len]; exact lim_line h4
    exact ⟨.ref _, upd H (s.heap.objs.size + 1) (.lst ys), I.laid (t' := s.toks) (fun _ _ => PyProof.Rows.sortedAll_old) (Nat.le_succ _) ⟨hlen, out, ep, r1, he'⟩, rfl, q _ _ (I.hok.fresh (Nat.le_succ _)) r2⟩
theorem clr_sortD : Clr G (rSortD G) (f1 gSorted) := Cl1.clr fun M H v d x rw Q q1 q2 q3 q5 k => by
  cases d <;> simp only [gSorted] at q5 <;> try cases q5
  rename_i l
  split at q5
  · rename_i hs
    cases q5
    exact ⟨M, v, l, rfl, q3, hs, fun p xs hp hx => k _ _ (Grow.new hp) (new_lst hp q1 hx)⟩
  · cases q5
end
end GD
/-! Gg -/
set_option maxHeartbeats 4000000
/-! Gg: calls of defs, isinstance, statements. -/
namespace GD
open PySem L2
section
variable {G : GC} {Y : AS} {X : Cx} {e a b c : Expr} {es : List Expr} {pos : Pos}
/-! ### defs -/
abbrev MF := List D → Rw → Option (EV × Rw)
/-- a def of np parameters that computes g -/
def spG (P : Program) (w : World) (K : PySem.W.Frag) (T : List Addr × List Int) (np : Nat) (g : MF) : Sp := fun vs H Q _ => ∃ (G : GC) (N : AS) (ds : List D) (r : Rw) (e : EV) (r' : Rw), G.P = P ∧ G.w = w ∧ G.K = K ∧ (G.tabs, G.ns) = T ∧ ds.length = np ∧ RowAt G H r ∧ ¬ N G.ro ∧ RepL G N H vs ds ∧
  g ds r = some (e, r') ∧ e.k ≠ .bor ∧ ∀ v H', Ext G H H' → RowAt G H' r' → EvOk G N H H' v e → Q v H'
theorem spG_len {P : Program} {w : World} {K : PySem.W.Frag} {T : List Addr × List Int} {np : Nat} {g : MF} (vs : List V) (H : Hp) (Q : VK) (E : XK) (h : spG P w K T np g vs H Q E) : vs.length = np := by
  obtain ⟨G, N, ds, r, e, r', _, _, _, _, h1, _, _, h2, _⟩ := h
  rw [h2.len, h1]
def noBorK (e : EV) : Bool := e.k != .bor
def mFn (np : Nat) (g : MF) (m : MA) : ME := fun s => (m s).bind fun p => if (noBor p.1 && decide (p.1.length = np)) = true then (g (p.1.map (·.d)) p.2).bind fun q => if noBorK q.1 = true then some q else none else none
theorem se_fn {CX : CXT} {k np : Nat} {f : Addr} {fd : FuncData} {ps : List Str} {x : Str} {p : Pos} {g : MF} {m : MA} (ft : Fit G X) (F : FnOk X.prog X.w X.K X.mg X.base CX0 k f fd ps (spG X.prog X.w X.K (G.tabs, G.ns) np g)) (hr : Room k X.A) (hg : Gl X x) (hm : X.mg x = some (.ref f)) (hk : PySem.W.keepIn X.K (.ref f) = true)
    (hb : Binds X.K fd ps []) (ha : SA G Y X (a :: es) m) (hd : (x == ("__debug__" : Str)) = false := by decide)
    (he : starEach (a :: es) X.env = (false, eval a X.env) :: starEach es X.env := by rfl) (hst : (backTo pos (starEach es X.env)).any (·.1) = false := by rfl) : SE G Y X (.Call (.Name x p) (a :: es) [] pos) (mFn np g m) :=
  PE.weak (pe_call (E := E0) F hr hg hm hk hb .nil pass0 ha hd he hst) fun sg H Q h => by
    obtain ⟨N, s, e, r, at_, q, kk⟩ := h
    unfold mFn at q
    simp only [Option.bind_eq_some_iff] at q
    obtain ⟨⟨es, r1⟩, h1, h2⟩ := q
    simp only at h2
    split at h2
    · rename_i hc
      simp only [Option.bind_eq_some_iff] at h2
      obtain ⟨⟨e1, r2⟩, h3, h4⟩ := h2
      simp only at h4
      split at h4
      · rename_i hb2
        cases h4
        rw [Bool.and_eq_true, decide_eq_true_eq] at hc
        refine ⟨N, s, es, r1, at_, h1, fun vs H1 x w o => ?_⟩
        show spG X.prog X.w X.K (G.tabs, G.ns) np g (vs ++ []) H1 Q E0
        rw [List.append_nil]
        refine ⟨G, Nf N H, es.map (·.d), r1, e, _, ft.P.symm, ft.w.symm, ft.K.symm, rfl, by rw [List.length_map]; exact hc.2, w, nro_nf at_.nro at_.row, o.reps hc.1, h3, by simpa [noBorK] using hb2, fun v H2 x2 w2 o2 => ?_⟩
        exact kk v H2 (x.trans x2) w2 (o2.base x)
      · cases h4
    · cases h2
/-! ### isinstance -/
def tyD : D → Option String
  | .non => some "NoneType"
  | .bl _ => some "bool"
  | .int _ => some "int"
  | .tup _ => some "tuple"
  | .lst _ => some "list"
  | _ => none
theorem ty_ok {M : AS} {H : Hp} {v : V} {d : D} {t : String} (h : Top G M H v d) (q : tyD d = some t) : TyX G.K H v (.type t) := by
  cases d <;> simp only [tyD] at q <;> cases q
  · have : v = .non := by simpa only [Top, Rep] using h
    subst this; exact .base .non
  · rename_i b
    have : v = .bl b := by simpa only [Top, Rep] using h
    subst this; exact .base (.bl b)
  · rename_i b
    have : v = .int b := by simpa only [Top, Rep] using h
    subst this; exact .base (.int b)
  · obtain ⟨a, vs, rfl, e, _⟩ := h.tup
    exact .base (.tup e)
  · obtain ⟨a, vs, rfl, _, e, _⟩ := h
    exact .base (.lst e)
def mIsi (tb : String → Bool) (m : ME) : ME := fun s => (m s).bind fun p => (tyD p.1.d).map fun t => (evB (tb t), p.2)
def tyNames : List String := ["NoneType", "bool", "int", "tuple", "list"]
theorem tyD_mem {d : D} {t : String} (q : tyD d = some t) : t ∈ tyNames := by
  cases d <;> simp only [tyD] at q <;> cases q <;> decide
theorem rd_isi {tb : String → Bool} {m : ME} {T : String} {sg : St} {H : Hp} {Q : VK} (hK : ∀ t ∈ tyNames, kitB t T = some (tb t)) (h : rdE G Y (mIsi tb m) sg H Q) : tCB (rIsi G.K) (tCons (rdE G Y m) (tCons (tC (.ty T)) tNil)) sg H Q := by
  obtain ⟨N, s, e, r, at_, q, k⟩ := h
  unfold mIsi at q
  simp only [Option.bind_eq_some_iff, Option.map_eq_some_iff] at q
  obtain ⟨⟨e1, r1⟩, h1, t, h2, h3⟩ := q
  cases h3
  refine ⟨N, s, e1, r1, at_, h1, fun v H1 x w o => ?_⟩
  exact ⟨v, .ty T, .type t, .type T, tb t, rfl, .ty T, ty_ok o.top h2, kit_ty (hK t (tyD_mem h2)), k _ H1 x w ok_bl⟩
theorem se_isi {tb : String → Bool} {m : ME} {T : String} {x : Str} {p p2 : Pos} (ft : Fit G X) (hK : ∀ t ∈ tyNames, kitB t T = some (tb t)) (ha : SE G Y X a m) (hg : Gl X "isinstance") (hm : X.mg "isinstance" = none) (gt : Gl X x) (mt : X.mg x = none) (ht : bootBuiltins x = some (.type T))
    (hv : bootBuiltins "isinstance" = some (.builtin "isinstance") := by decide +kernel) (hn : x ≠ "__name__" := by decide) (hdb : (x == ("__debug__" : Str)) = false := by decide)
    (he : starEach [a, .Name x p2] X.env = (false, eval a X.env) :: starEach [.Name x p2] X.env := by rfl) (hst : (backTo pos (starEach [.Name x p2] X.env)).any (·.1) = false := by rfl) : SE G Y X (.Call (.Name "isinstance" p) [a, .Name x p2] [] pos) (mIsi tb m) :=
  PE.weak (pe_callB call_isi hg hm hv (pa_cons ha (pa_cons (pe_bltn gt mt ht (v := .ty T) rfl hn hdb) pa_nil) he) (by decide) (by decide) he hst) fun sg H Q h => by
    rw [ft.K]
    exact rd_isi hK h
theorem rd_isi2 {tb : String → Bool} {m : ME} {T U : String} {sg : St} {H : Hp} {Q : VK} (hK : ∀ t ∈ tyNames, PySem.W.kitAny G.K (.type t) [.type T, .type U] = some (tb t)) (h : rdE G Y (mIsi tb m) sg H Q) :
    tCB (rIsiT G.K) (tCons (rdE G Y m) (tCons (tTup (tCons (tC (.ty T)) (tCons (tC (.ty U)) tNil))) tNil)) sg H Q := by
  obtain ⟨N, s, e, r, at_, q, k⟩ := h
  unfold mIsi at q
  simp only [Option.bind_eq_some_iff, Option.map_eq_some_iff] at q
  obtain ⟨⟨e1, r1⟩, h1, t, h2, h3⟩ := q
  cases h3
  refine ⟨N, s, e1, r1, at_, h1, fun v H1 x w o => ?_⟩
  refine ⟨by show 2 ≤ sizeLine; decide, fun p hp => ?_⟩
  exact ⟨v, p, [.ty T, .ty U], .type t, [.type T, .type U], tb t, rfl, upd_same, .cons (.ty T) (.cons (.ty U) .nil), ty_ok (o.top.ext (Ext.new hp)) h2, hK t (tyD_mem h2), k _ _ (x.trans (Ext.new hp)) ((Grow.new hp).row _ w) ok_bl⟩
theorem kit_two {K : PySem.W.Frag} {t T U : String} {x y : Bool} (h : kitB t T = some x) (h2 : kitB t U = some y) : PySem.W.kitAny K (.type t) [.type T, .type U] = some (x || y) := by
  refine kitAny_cons (kit_ty h) (fun hx => ?_) fun hx => by rw [hx]; rfl
  refine kitAny_cons (kit_ty h2) (fun hy => ?_) fun hy => by rw [hy, hx]; rfl
  rw [hx, hy]
  rfl
theorem se_isi2 {tb : String → Bool} {m : ME} {T U : String} {x y : Str} {p p2 p3 p4 : Pos} {k0} (ft : Fit G X) (hK : ∀ t ∈ tyNames, ∃ b1 b2, kitB t T = some b1 ∧ kitB t U = some b2 ∧ tb t = (b1 || b2)) (ha : SE G Y X a m) (hg : Gl X "isinstance") (hm : X.mg "isinstance" = none) (gt : Gl X x) (mt : X.mg x = none) (ht : bootBuiltins x = some (.type T)) (gu : Gl X y) (mu : X.mg y = none) (hu : bootBuiltins y = some (.type U))
    (hv : bootBuiltins "isinstance" = some (.builtin "isinstance") := by decide +kernel) (hn : x ≠ "__name__" := by decide) (hdb : (x == ("__debug__" : Str)) = false := by decide) (hn2 : y ≠ "__name__" := by decide) (hdb2 : (y == ("__debug__" : Str)) = false := by decide)
    (he : starEach [a, .Tuple [.Name x p2, .Name y p3] k0 p4] X.env = (false, eval a X.env) :: starEach [.Tuple [.Name x p2, .Name y p3] k0 p4] X.env := by rfl) (hst : (backTo pos (starEach [.Tuple [.Name x p2, .Name y p3] k0 p4] X.env)).any (·.1) = false := by rfl) :
    SE G Y X (.Call (.Name "isinstance" p) [a, .Tuple [.Name x p2, .Name y p3] k0 p4] [] pos) (mIsi tb m) :=
  PE.weak (pe_callB call_isiT hg hm hv (pa_cons ha (pa_cons (pe_tup (pa_cons (pe_bltn gt mt ht (v := .ty T) rfl hn hdb) (pa_cons (pe_bltn gu mu hu (v := .ty U) rfl hn2 hdb2) pa_nil))) pa_nil) he) (by decide) (by decide) he hst) fun sg H Q h => by
    rw [ft.K]
    refine rd_isi2 (fun t ht => ?_) h
    obtain ⟨b1, b2, q1, q2, q3⟩ := hK t ht
    rw [q3]
    exact kit_two q1 q2
/-! ### statements -/
inductive Fl where
  | nx (sl : Sl)
  | rt (e : EV)
  | bk (sl : Sl)
  | ct (sl : Sl)
abbrev MSt := MS → Option (Fl × Rw)
/-- what stands stays, but the row, the tables, and one's own -/
structure ExtY (G : GC) (Y : AS) (H H' : Hp) : Prop where
  keep : ∀ a o, H a = some o → ¬ Y a → a ≠ G.ro → (∀ ps, o ≠ .tbl ps) → H' a = some o
  tups : ∀ a xs, H a = some (.tup xs) → H' a = some (.tup xs)
  live : ∀ a, H' a = none → H a = none
theorem ExtY.trans {H H1 H2 : Hp} (a : ExtY G Y H H1) (b : ExtY G Y H1 H2) : ExtY G Y H H2 :=
  ⟨fun x o h y n t => b.keep x o (a.keep x o h y n t) y n t, fun x xs h => b.tups x xs (a.tups x xs h), fun x h => a.live x (b.live x h)⟩
theorem Ext.y {H H' : Hp} (x : Ext G H H') : ExtY G Y H H' := ⟨fun a o h _ n t => x.keep a o h n t, x.tups, x.live⟩
/-- the script stands in the written part -/
def KSc (G : GC) : Prop := ∃ (o : Obj) (its : Array Value) (n : Nat), G.K.lookup G.sc = some o ∧ o.cls = .type "list" ∧ o.dict = none ∧ o.data = .seq its n ∧ its.size ≤ sizeLine ∧ Vals (G.ns.map V.int) its.toList
/-- the frame: N0 what may be leaned on at all; what is free is young, what is young may be leaned on -/
structure Fm (G : GC) (Y N0 : AS) (H : Hp) : Prop where
  fresh : ∀ a, H a = none → Y a
  young : ∀ a, Y a → N0 a
  nro : ¬ N0 G.ro
  nsc : ¬ Y G.sc ∨ KSc G
theorem Fm.ext {N0 : AS} {H H' : Hp} (f : Fm G Y N0 H) (x : ExtY G Y H H') : Fm G Y N0 H' := ⟨fun a h => f.fresh a (x.live a h), f.young, f.nro, f.nsc⟩
abbrev Pin := List (Sum (V × D) (Addr × HO))
def Pin1 (G : GC) (N : AS) (H : Hp) : Sum (V × D) (Addr × HO) → Prop
  | .inl x => Rep G N H x.1 x.2
  | .inr x => N x.1 ∧ x.1 ≠ G.ro ∧ H x.1 = some x.2 ∧ ∀ ps, x.2 ≠ .tbl ps
def Pins (G : GC) (N : AS) (H : Hp) (p : Pin) : Prop := ∀ q ∈ p, Pin1 G N H q
theorem Pin1.fix {N N' : AS} {H H' : Hp} (e : Fix G N H H') (hN : ∀ a, N a → N' a) : ∀ {q : Sum (V × D) (Addr × HO)}, Pin1 G N H q → Pin1 G N' H' q
  | .inl x, h => Rep.fix e hN _ _ h
  | .inr x, h => ⟨hN _ h.1, h.2.1, e.cons _ _ h.1 h.2.1 h.2.2.1 h.2.2.2, h.2.2.2⟩
theorem Pin1.there {N : AS} {H : Hp} : ∀ {q : Sum (V × D) (Addr × HO)}, Pin1 G N H q → Pin1 G (Th N H) H q
  | .inl x, h => Rep.there _ _ h
  | .inr x, h => ⟨⟨h.1, by rw [h.2.2.1]; simp⟩, h.2⟩
structure AtS (G : GC) (Y N0 : AS) (pn : Pin) (N : AS) (sg : St) (H : Hp) (s : MS) : Prop where
  at_ : At G Y N sg H s
  fm : Fm G Y N0 H
  sub : ∀ a, N a → N0 a
  pin : Pins G N H pn
def RetOk (G : GC) (Y N0 : AS) (H' : Hp) (v : V) (e : EV) : Prop :=
  match e.k with
  | .dat => Rep G N0 H' v e.d
  | .new => isCont e.d = true ∧ ∃ a, v = .ref a ∧ Y a ∧ Top G (Nd N0 a) H' v e.d
  | .bor => False
def PostS (G : GC) (Y N0 : AS) (pn : Pin) (H : Hp) (r : Rw) (D : Ends) : Fl → Prop
  | .nx sl => ∀ sg' H' N', ExtY G Y H H' → AtS G Y N0 pn N' sg' H' ⟨sl, r⟩ → D.nx sg' H'
  | .bk sl => ∀ sg' H' N', ExtY G Y H H' → AtS G Y N0 pn N' sg' H' ⟨sl, r⟩ → D.bk sg' H'
  | .ct sl => ∀ sg' H' N', ExtY G Y H H' → AtS G Y N0 pn N' sg' H' ⟨sl, r⟩ → D.ct sg' H'
  | .rt e => ∀ v H', ExtY G Y H H' → RowAt G H' r → RetOk G Y N0 H' v e → D.rt v H'
def rdS (G : GC) (Y : AS) (m : MSt) : TS := fun D sg H => ∃ N0 pn N s fl r, AtS G Y N0 pn N sg H s ∧ m s = some (fl, r) ∧ PostS G Y N0 pn H r D fl
abbrev SS (G : GC) (Y : AS) (X : Cx) (st : Stmt) (m : MSt) : Prop := PS X st (rdS G Y m)
abbrev SSs (G : GC) (Y : AS) (X : Cx) (st : List Stmt) (m : MSt) : Prop := PSs X st (rdS G Y m)
theorem PostS.later {N0 : AS} {pn : Pin} {H H1 : Hp} {r : Rw} {D : Ends} {fl : Fl} (x : ExtY G Y H H1) (h : PostS G Y N0 pn H r D fl) : PostS G Y N0 pn H1 r D fl := by
  cases fl with
  | nx sl => exact fun sg' H' N' y a => h sg' H' N' (x.trans y) a
  | bk sl => exact fun sg' H' N' y a => h sg' H' N' (x.trans y) a
  | ct sl => exact fun sg' H' N' y a => h sg' H' N' (x.trans y) a
  | rt e => exact fun v H' y => h v H' (x.trans y)
theorem Pins.fix {N N' : AS} {H H' : Hp} {p : Pin} (e : Fix G N H H') (hN : ∀ a, N a → N' a) (h : Pins G N H p) : Pins G N' H' p := fun q hq => (h q hq).fix e hN
theorem AtS.ext {N0 N : AS} {pn : Pin} {sg : St} {H H' : Hp} {s : MS} {r : Rw} (h : AtS G Y N0 pn N sg H s) (x : Ext G H H') (w : RowAt G H' r) : AtS G Y N0 pn N sg H' ⟨s.sl, r⟩ :=
  ⟨h.at_.ext x w, h.fm.ext x.y, h.sub, h.pin.fix x.fix fun _ z => z⟩
/-! blocks -/
def mNext : MSt := fun s => some (.nx s.sl, s.rw)
def mSeq (a b : MSt) : MSt := fun s => (a s).bind fun p => match p.1 with
  | .nx sl => b ⟨sl, p.2⟩
  | _ => some p
theorem ss_nil : SSs G Y X [] mNext := PSs.weak pss_nil fun D sg H h => by
  obtain ⟨N0, pn, N, s, fl, r, at_, q, k⟩ := h
  cases q
  exact k sg H N (Ext.refl G H).y at_
theorem ss_cons {st : Stmt} {rest : List Stmt} {m m' : MSt} (h1 : SS G Y X st m) (h2 : SSs G Y X rest m') : SSs G Y X (st :: rest) (mSeq m m') := PSs.weak (pss_cons h1 h2) fun D sg H h => by
  obtain ⟨N0, pn, N, s, fl, r, at_, q, k⟩ := h
  unfold mSeq at q
  simp only [Option.bind_eq_some_iff] at q
  obtain ⟨⟨f1, r1⟩, h1, h2⟩ := q
  refine ⟨N0, pn, N, s, f1, r1, at_, h1, ?_⟩
  cases f1 with
  | nx sl =>
    simp only at h2
    exact fun sg' H' N' x a => ⟨N0, pn, N', ⟨sl, r1⟩, fl, r, a, h2, k.later x⟩
  | rt e => cases h2; exact k
  | bk sl => cases h2; exact k
  | ct sl => cases h2; exact k
theorem ss_one {st : Stmt} {m : MSt} (h1 : SS G Y X st m) : SSs G Y X [st] m := pss_one h1
theorem ss_never {st : Stmt} : SS G Y X st (fun _ => none) := PS.weak ps_never fun D sg H h => by
  obtain ⟨N0, pn, N, s, fl, r, at_, q, k⟩ := h
  cases q
theorem ss_pass : SS G Y X (.Pass pos) mNext := PS.weak ps_pass fun D sg H h => by
  obtain ⟨N0, pn, N, s, fl, r, at_, q, k⟩ := h
  cases q
  exact k sg H N (Ext.refl G H).y at_
def mBrk : MSt := fun s => some (.bk s.sl, s.rw)
theorem ss_break : SS G Y X (.Break pos) mBrk := PS.weak ps_break fun D sg H h => by
  obtain ⟨N0, pn, N, s, fl, r, at_, q, k⟩ := h
  cases q
  exact k sg H N (Ext.refl G H).y at_
def mIfS (t : MT) (a b : MSt) : MSt := fun s => (t s).bind fun p => if p.1 = true then a ⟨s.sl, p.2⟩ else b ⟨s.sl, p.2⟩
theorem ss_if {sa sb : List Stmt} {t : MT} {ma mb : MSt} (ht : ST G Y X c t) (ha : SSs G Y X sa ma) (hb : SSs G Y X sb mb) : SS G Y X (.If c sa sb pos) (mIfS t ma mb) := PS.weak (ps_if ht ha hb) fun D sg H h => by
  obtain ⟨N0, pn, N, s, fl, r, at_, q, k⟩ := h
  unfold mIfS at q
  simp only [Option.bind_eq_some_iff] at q
  obtain ⟨⟨b', r1⟩, h1, h2⟩ := q
  refine ⟨N, s, b', r1, at_.at_, h1, fun H1 x w => ?_⟩
  cases b' with
  | true => exact ⟨N0, pn, N, ⟨s.sl, r1⟩, fl, r, at_.ext x w, h2, k.later x.y⟩
  | false => exact ⟨N0, pn, N, ⟨s.sl, r1⟩, fl, r, at_.ext x w, h2, k.later x.y⟩
/-! return -/
theorem EvOk.ret {N0 N : AS} {pn : Pin} {sg : St} {H H' : Hp} {s : MS} {v : V} {e : EV} (a : AtS G Y N0 pn N sg H s) (o : EvOk G N H H' v e) (hb : e.k ≠ .bor) : RetOk G Y N0 H' v e := by
  have m : ∀ b, Nf N H b → N0 b := fun b z => z.elim (a.sub b) fun z => a.fm.young b (a.fm.fresh b z)
  obtain ⟨d, k⟩ := e
  cases k with
  | dat => exact Rep.mono m o
  | new =>
    obtain ⟨c, b, e1, e2, h⟩ := o
    exact ⟨c, b, e1, a.fm.fresh b e2, h.mono fun x z => ⟨m x z.1, z.2⟩⟩
  | bor => exact absurd rfl hb
def mRet (m : ME) : MSt := fun s => (m s).bind fun p => if noBorK p.1 = true then some (.rt p.1, p.2) else none
theorem ss_ret {m : ME} (h : SE G Y X e m) : SS G Y X (.Return (some e) pos) (mRet m) := PS.weak (ps_ret h) fun D sg H h => by
  obtain ⟨N0, pn, N, s, fl, r, at_, q, k⟩ := h
  unfold mRet at q
  simp only [Option.bind_eq_some_iff] at q
  obtain ⟨⟨e1, r1⟩, h1, h2⟩ := q
  simp only at h2
  split at h2
  · rename_i hb
    cases h2
    exact ⟨N, s, e1, r, at_.at_, h1, fun v H1 x w o => k v H1 x.y w (o.ret at_ (by simpa [noBorK] using hb))⟩
  · cases h2
/-- return x, x a slot: what it owns goes out -/
def mRetVar (i : Nat) : MSt := fun s => match s.sl[i]? with
  | some (some (.dat d)) => some (.rt ⟨d, .dat⟩, s.rw)
  | some (some (.own d)) => some (.rt ⟨d, .new⟩, s.rw)
  | _ => none
theorem ss_retv {i : Nat} (h : PE X e (tVar i)) : SS G Y X (.Return (some e) pos) (mRetVar i) := PS.weak (ps_ret h) fun D sg H h => by
  obtain ⟨N0, pn, N, s, fl, r, at_, q, k⟩ := h
  unfold mRetVar at q
  split at q
  · rename_i d hd
    cases q
    obtain ⟨v, e1, o⟩ := at_.at_.sl.dat i d hd
    exact ⟨v, e1, k v H (Ext.refl G H).y at_.at_.row (Rep.mono at_.sub o)⟩
  · rename_i d hd
    cases q
    obtain ⟨b, e1, y, n, c, o⟩ := at_.at_.sl.own i d hd
    exact ⟨_, e1, k _ H (Ext.refl G H).y at_.at_.row ⟨c, b, rfl, y, o.mono fun x z => ⟨at_.sub x z, fun q => n (q ▸ z)⟩⟩⟩
  · cases q
theorem ss_retN : SS G Y X (.Return none pos) (fun s => some (.rt ⟨.non, .dat⟩, s.rw)) := PS.weak ps_retN fun D sg H h => by
  obtain ⟨N0, pn, N, s, fl, r, at_, q, k⟩ := h
  cases q
  exact k .non H (Ext.refl G H).y at_.at_.row (show Rep G N0 H .non .non by simp only [Rep])
/-- an expression whose value is dropped -/
def mDrop (m : ME) : MSt := fun s => (m s).map fun p => (.nx s.sl, p.2)
theorem ss_expr {m : ME} (h : SE G Y X e m) (hs : swapsWith e none pos.line X.env = pure false := by rfl) : SS G Y X (.Expr e pos) (mDrop m) := PS.weak (ps_expr h hs) fun D sg H h => by
  obtain ⟨N0, pn, N, s, fl, r, at_, q, k⟩ := h
  unfold mDrop at q
  simp only [Option.map_eq_some_iff] at q
  obtain ⟨⟨e1, r1⟩, h1, h2⟩ := q
  cases h2
  exact ⟨N, s, e1, _, at_.at_, h1, fun v H1 x w o => k sg H1 N x.y (at_.ext x w)⟩
end
end GD
/-! Gh -/
set_option maxHeartbeats 4000000
/-! Gh: stores. -/
namespace GD
open PySem L2
section
variable {G : GC} {Y : AS} {X : Cx} {e a b c : Expr} {es : List Expr} {pos : Pos}
/-! ### states behind a store -/
/-- told over more addresses -/
theorem SlOk.wide {N N' : AS} {sg : St} {sl : Sl} {H : Hp} (h : SlOk G Y N sg sl H) (m : ∀ a, N a → N' a) (n : ∀ a, N' a → N a ∨ H a = none) : SlOk G Y N' sg sl H where
  dat := fun i d e => let ⟨v, e1, r⟩ := h.dat i d e; ⟨v, e1, r.mono m⟩
  own := fun i d e => let ⟨a, e1, y, nn, c, r⟩ := h.own i d e; ⟨a, e1, y, fun z => (n a z).elim nn (Top.live c r), c, r.mono m⟩
  sep := h.sep
  len := h.len
where
  Top.live {N : AS} {H : Hp} {a : Addr} {d : D} (c : isCont d = true) (r : Top G N H (.ref a) d) : ¬ H a = none := by
    cases d <;> simp [isCont] at c
    · obtain ⟨b, vs, e1, _, e2, _⟩ := r; cases e1; rw [e2]; simp
    · obtain ⟨b, vs, e1, _, e2, _⟩ := r; cases e1; rw [e2]; simp
    · obtain ⟨b, vs, e1, _, e2, _⟩ := r; cases e1; rw [e2]; simp
theorem Top.live {N : AS} {H : Hp} {a : Addr} {d : D} (c : isCont d = true) (r : Top G N H (.ref a) d) : ¬ H a = none := SlOk.wide.Top.live c r
theorem Top.nro {N : AS} {H : Hp} {a : Addr} {d : D} (c : isCont d = true) (r : Top G N H (.ref a) d) : a ≠ G.ro := by
  cases d <;> simp [isCont] at c
  · obtain ⟨b, vs, e1, e, _⟩ := r; cases e1; exact e
  · obtain ⟨b, vs, e1, e, _⟩ := r; cases e1; exact e
  · obtain ⟨b, vs, e1, e, _⟩ := r; cases e1; exact e
/-- behind an evaluation: what was free then is in N -/
theorem AtS.wide {N0 N : AS} {pn : Pin} {sg : St} {H H' : Hp} {s : MS} {r : Rw} (h : AtS G Y N0 pn N sg H s) (x : Ext G H H') (w : RowAt G H' r) : AtS G Y N0 pn (Nf N H) sg H' ⟨s.sl, r⟩ :=
  ⟨⟨(h.at_.sl.wide nf_of fun _ z => z).ext x, w, nro_nf h.at_.nro h.at_.row⟩, h.fm.ext x.y, fun b z => z.elim (h.sub b) fun z => h.fm.young b (h.fm.fresh b z), h.pin.fix x.fix nf_of⟩
/-- .. but for some new things -/
theorem AtS.but {N0 N O : AS} {pn : Pin} {sg : St} {H H' : Hp} {s : MS} {r : Rw} (h : AtS G Y N0 pn N sg H s) (x : Ext G H H') (w : RowAt G H' r) (hO : ∀ a, O a → H a = none) : AtS G Y N0 pn (fun a => Nf N H a ∧ ¬ O a) sg H' ⟨s.sl, r⟩ := by
  have q := h.wide x w
  have h1 : SlOk G Y (fun a => Nf N H a ∧ ¬ O a) sg s.sl H := (h.at_.sl.wide (N' := Nf N H) nf_of fun _ z => z).less (fun a n hn => ⟨n, fun o => hn (hO a o)⟩) fun a z => z.1
  refine ⟨⟨h1.ext x, w, fun z => q.at_.nro z.1⟩, q.fm, fun b z => q.sub b z.1, fun p hp => ?_⟩
  have h2 := (h.pin p hp).there
  exact h2.fix x.fix fun a z => ⟨.inl z.1, fun o => z.2 (hO a o)⟩
theorem set_get {α : Type} {l : List α} {i j : Nat} {x y : α} (h : (l.set i x)[j]? = some y) : (i = j ∧ y = x) ∨ (i ≠ j ∧ l[j]? = some y) := by
  by_cases e : i = j
  · subst e
    by_cases hl : i < l.length
    · rw [List.getElem?_set_self hl] at h
      cases h
      exact .inl ⟨rfl, rfl⟩
    · rw [List.getElem?_eq_none (by simpa using hl)] at h
      cases h
  · rw [List.getElem?_set_ne e] at h
    exact .inr ⟨e, h⟩
theorem SlOk.lt {N : AS} {sg : St} {sl : Sl} {H : Hp} {i : Nat} {x : Option SV} (h : SlOk G Y N sg sl H) (e : sl[i]? = some x) : i < sg.length := by
  have := (List.getElem?_eq_some_iff.mp e).1
  rw [← h.len]
  exact this
theorem SlOk.setDat {N : AS} {sg : St} {sl : Sl} {H : Hp} {i : Nat} {v : V} {d : D} (h : SlOk G Y N sg sl H) (r : Rep G N H v d) : SlOk G Y N (sg.set i (some v)) (sl.set i (some (.dat d))) H where
  dat := fun j f e => by
    have hl : i = j → j < sg.length := fun z => by
      have := (List.getElem?_eq_some_iff.mp e).1
      rw [List.length_set] at this
      rw [← h.len]; exact this
    rcases set_get e with ⟨rfl, e1⟩ | ⟨ne, e1⟩
    · cases e1
      exact ⟨v, List.getElem?_set_self (hl rfl), r⟩
    · obtain ⟨w, e2, r2⟩ := h.dat j f e1
      exact ⟨w, by rw [List.getElem?_set_ne ne]; exact e2, r2⟩
  own := fun j f e => by
    rcases set_get e with ⟨rfl, e1⟩ | ⟨ne, e1⟩
    · cases e1
    · obtain ⟨w, e2, r2⟩ := h.own j f e1
      exact ⟨w, by rw [List.getElem?_set_ne ne]; exact e2, r2⟩
  sep := fun j k f g a e1 e2 e3 e4 => by
    rcases set_get e1 with ⟨rfl, q1⟩ | ⟨ne, q1⟩
    · cases q1
    · rcases set_get e2 with ⟨rfl, q2⟩ | ⟨ne2, q2⟩
      · cases q2
      · rw [List.getElem?_set_ne ne] at e3
        rw [List.getElem?_set_ne ne2] at e4
        exact h.sep j k f g a q1 q2 e3 e4
  len := by rw [List.length_set, List.length_set]; exact h.len
theorem SlOk.setOwn {N : AS} {sg : St} {sl : Sl} {H : Hp} {i : Nat} {a : Addr} {d : D} (h : SlOk G Y N sg sl H) (y : Y a) (n : ¬ N a) (c : isCont d = true) (r : Top G N H (.ref a) d)
    (sp : ∀ (j : Nat) (f : D), i ≠ j → sl[j]? = some (some (.own f)) → sg[j]? ≠ some (some (.ref a))) : SlOk G Y N (sg.set i (some (.ref a))) (sl.set i (some (.own d))) H where
  dat := fun j f e => by
    rcases set_get e with ⟨rfl, e1⟩ | ⟨ne, e1⟩
    · cases e1
    · obtain ⟨w, e2, r2⟩ := h.dat j f e1
      exact ⟨w, by rw [List.getElem?_set_ne ne]; exact e2, r2⟩
  own := fun j f e => by
    have hl : i = j → j < sg.length := fun z => by
      have := (List.getElem?_eq_some_iff.mp e).1
      rw [List.length_set] at this
      rw [← h.len]; exact this
    rcases set_get e with ⟨rfl, e1⟩ | ⟨ne, e1⟩
    · cases e1
      exact ⟨a, List.getElem?_set_self (hl rfl), y, n, c, r⟩
    · obtain ⟨w, e2, r2⟩ := h.own j f e1
      exact ⟨w, by rw [List.getElem?_set_ne ne]; exact e2, r2⟩
  sep := fun j k f g b e1 e2 e3 e4 => by
    have hs : ∀ {j : Nat} {f : D}, i ≠ j → sl[j]? = some (some (.own f)) → (sg.set i (some (.ref a)))[j]? = some (some (.ref b)) → (sg.set i (some (.ref a)))[i]? = some (some (.ref b)) → False := fun {j f} ne e1 e3 e4 => by
      rw [List.getElem?_set_ne ne] at e3
      rcases set_get e4 with ⟨_, q⟩ | ⟨z, _⟩
      · cases q
        exact sp j f ne e1 e3
      · exact z rfl
    rcases set_get e1 with ⟨rfl, q1⟩ | ⟨ne, q1⟩
    · rcases set_get e2 with ⟨rfl, q2⟩ | ⟨ne2, q2⟩
      · rfl
      · exact (hs ne2 q2 e4 e3).elim
    · rcases set_get e2 with ⟨rfl, q2⟩ | ⟨ne2, q2⟩
      · exact (hs ne q1 e3 e4).elim
      · rw [List.getElem?_set_ne ne] at e3
        rw [List.getElem?_set_ne ne2] at e4
        exact h.sep j k f g b q1 q2 e3 e4
  len := by rw [List.length_set, List.length_set]; exact h.len
theorem AtS.slots {N0 N : AS} {pn : Pin} {sg sg' : St} {H : Hp} {s : MS} {sl' : Sl} (h : AtS G Y N0 pn N sg H s) (q : SlOk G Y N sg' sl' H) : AtS G Y N0 pn N sg' H ⟨sl', s.rw⟩ := ⟨⟨q, h.at_.row, h.at_.nro⟩, h.fm, h.sub, h.pin⟩
/-- an answer kept in a slot -/
def kept : EV → Option SV
  | ⟨d, .dat⟩ => some (.dat d)
  | ⟨d, .new⟩ => some (.own d)
  | ⟨_, .bor⟩ => none
theorem AtS.keep {N0 N : AS} {pn : Pin} {sg : St} {H H' : Hp} {s : MS} {r : Rw} {v : V} {e : EV} {sv : SV} {i : Nat} (h : AtS G Y N0 pn N sg H s) (x : Ext G H H') (w : RowAt G H' r) (o : EvOk G N H H' v e) (k : kept e = some sv) :
    ∃ N', AtS G Y N0 pn N' (sg.set i (some v)) H' ⟨s.sl.set i (some sv), r⟩ := by
  obtain ⟨d, kd⟩ := e
  cases kd with
  | dat =>
    cases k
    have q := h.wide x w
    exact ⟨_, q.slots (q.at_.sl.setDat o)⟩
  | new =>
    cases k
    obtain ⟨c, p, rfl, hp, o⟩ := o
    have q := h.but (O := fun z => z = p) x w fun z e => e ▸ hp
    refine ⟨_, q.slots (q.at_.sl.setOwn (h.fm.fresh p hp) (fun z => z.2 rfl) c (o.mono fun z q => ⟨q.1, q.2⟩) fun j f ne e1 e2 => ?_)⟩
    obtain ⟨b, e3, _, _, c3, r3⟩ := h.at_.sl.own j f e1
    rw [e2] at e3
    cases e3
    exact Top.live c3 r3 hp
  | bor => cases k
/-! ### name = value -/
def mAsg (i : Nat) (m : ME) : MSt := fun s => (m s).bind fun p => (kept p.1).map fun sv => (.nx (s.sl.set i (some sv)), p.2)
theorem ss_of {st : Stmt} {te : TE} {i : Nat} {m : ME} (h : PS X st (tAsg te (gName i))) (w : ∀ sg H Q, rdE G Y m sg H Q → te sg H Q) : SS G Y X st (mAsg i m) := PS.weak h fun D sg H h => by
  obtain ⟨N0, pn, N, s, fl, r, at_, q, k⟩ := h
  unfold mAsg at q
  simp only [Option.bind_eq_some_iff, Option.map_eq_some_iff] at q
  obtain ⟨⟨e1, r1⟩, h1, sv, h2, h3⟩ := q
  cases h3
  refine w sg H _ ⟨N, s, e1, _, at_.at_, h1, fun v H1 x w o => ?_⟩
  obtain ⟨N', q⟩ := at_.keep (i := i) x w o h2
  exact k _ H1 N' x.y q
theorem ss_set {i : Nat} {x : Str} {m : ME} {pos' : Pos} (hN : X.N.Nodup) (hi : X.N[i]? = some x) (hx : Loc X.env.scope x) (he : SE G Y X e m) (hs : swapsWith e (some (.Name x pos')) pos.line X.env = pure false := by rfl) (hf : X.fn x = true ∨ X.env.scope.names.lookup x = some .local := by first | exact .inl rfl | exact .inr rfl | assumption) :
    SS G Y X (.Assign [.Name x pos'] e pos) (mAsg i m) := ss_of (ps_set hN hi hx he hs hf) fun _ _ _ h => h
/-- a slot's own thing is given away -/
def frz (i : Nat) (sl : Sl) : Sl := match sl[i]? with
  | some (some (.own d)) => sl.set i (some (.dat d))
  | _ => sl
theorem AtS.frz {N0 N : AS} {pn : Pin} {sg : St} {H : Hp} {s : MS} (i : Nat) (h : AtS G Y N0 pn N sg H s) : ∃ N', AtS G Y N0 pn N' sg H ⟨frz i s.sl, s.rw⟩ := by
  unfold GD.frz
  split
  · rename_i d hd
    obtain ⟨p, e1, y, n, c, o⟩ := h.at_.sl.own i d hd
    have hm : ∀ z, N z → (N z ∨ z = p) := fun z q => .inl q
    have ro := Top.nro c o
    refine ⟨fun z => N z ∨ z = p, ⟨?_, h.at_.row, fun z => z.elim h.at_.nro fun z => ro z.symm⟩, h.fm, fun b z => z.elim (h.sub b) fun z => z ▸ h.fm.young p y, h.pin.fix (Ext.refl G H).fix hm⟩
    refine ⟨fun j f e => ?_, fun j f e => ?_, fun j k f g b q1 q2 q3 q4 => ?_, by rw [List.length_set]; exact h.at_.sl.len⟩
    · rcases set_get e with ⟨rfl, q⟩ | ⟨ne, q⟩
      · cases q
        exact ⟨_, e1, o.rep hm fun b e _ => by cases e; exact .inr rfl⟩
      · obtain ⟨v, e2, r⟩ := h.at_.sl.dat j f q
        exact ⟨v, e2, r.mono hm⟩
    · rcases set_get e with ⟨rfl, q⟩ | ⟨ne, q⟩
      · cases q
      · obtain ⟨b, e2, y2, n2, c2, o2⟩ := h.at_.sl.own j f q
        refine ⟨b, e2, y2, fun z => z.elim n2 fun z => ?_, c2, o2.mono hm⟩
        subst z
        exact ne (h.at_.sl.sep i j d f b hd q e1 e2)
    · rcases set_get q1 with ⟨rfl, q⟩ | ⟨ne, q1⟩
      · cases q
      · rcases set_get q2 with ⟨rfl, q⟩ | ⟨ne2, q2⟩
        · cases q
        · exact h.at_.sl.sep j k f g b q1 q2 q3 q4
  · exact ⟨N, h⟩
def mFrz (i : Nat) (m : MSt) : MSt := fun s => m ⟨frz i s.sl, s.rw⟩
theorem ss_frz (i : Nat) {st : Stmt} {m : MSt} (h : SS G Y X st m) : SS G Y X st (mFrz i m) := PS.weak h fun D sg H h => by
  obtain ⟨N0, pn, N, s, fl, r, at_, q, k⟩ := h
  obtain ⟨N', a⟩ := at_.frz i
  exact ⟨N0, pn, N', _, fl, r, a, q, k⟩
/-! ### several names -/
def setV : St → List Nat → List V → St
  | sg, i :: is, v :: vs => setV (sg.set i (some v)) is vs
  | sg, _, _ => sg
def setE : Sl → List Nat → List EV → Option Sl
  | sl, [], [] => some sl
  | sl, i :: is, e :: es => (kept e).bind fun sv => setE (sl.set i (some sv)) is es
  | _, _, _ => none
theorem set_many {N O : AS} {H : Hp} (hO : ∀ a, O a → Y a ∧ ¬ N a) : ∀ {is : List Nat} {es : List EV} {vs : List V} {sg : St} {sl sl' : Sl}, SlOk G Y N sg sl H → EvL G N O H vs es → (newsOf vs es).Nodup →
    (∀ (j : Nat) (f : D) (w : V), sl[j]? = some (some (.own f)) → sg[j]? = some (some w) → w ∉ newsOf vs es) → setE sl is es = some sl' → SlOk G Y N (setV sg is vs) sl' H
  | [], [], vs, sg, sl, sl', h, q, _, _, e => by
    simp only [setE] at e
    cases e
    cases vs <;> exact h
  | i :: is, ev :: es, vs, sg, sl, sl', h, q, nd, sp, e => by
    simp only [EvL] at q
    obtain ⟨v, t, rfl, q1, q2⟩ := q
    simp only [setE, Option.bind_eq_some_iff] at e
    obtain ⟨sv, e1, e2⟩ := e
    simp only [setV]
    obtain ⟨d, kd⟩ := ev
    cases kd with
    | dat =>
      cases e1
      have hn : newsOf (v :: t) (⟨d, .dat⟩ :: es) = newsOf t es := by simp [newsOf]
      rw [hn] at nd sp
      refine set_many hO (h.setDat q1) q2 nd (fun j f w e3 e4 => ?_) e2
      rcases set_get e3 with ⟨rfl, z⟩ | ⟨ne, e3⟩
      · cases z
      · rw [List.getElem?_set_ne ne] at e4
        exact sp j f w e3 e4
    | new =>
      cases e1
      obtain ⟨c, p, rfl, op, o⟩ := q1
      have hn : newsOf (V.ref p :: t) (⟨d, .new⟩ :: es) = V.ref p :: newsOf t es := by simp [newsOf]
      rw [hn] at nd sp
      obtain ⟨nd1, nd2⟩ := List.nodup_cons.mp nd
      refine set_many hO (h.setOwn (hO p op).1 (hO p op).2 c o fun j f ne e3 e4 => ?_) q2 nd2 (fun j f w e3 e4 => ?_) e2
      · exact sp j f _ e3 e4 List.mem_cons_self
      · rcases set_get e3 with ⟨rfl, z⟩ | ⟨ne, e3⟩
        · rcases set_get e4 with ⟨_, z2⟩ | ⟨z2, _⟩
          · cases z2
            exact nd1
          · exact absurd rfl z2
        · rw [List.getElem?_set_ne ne] at e4
          exact fun hm => sp j f w e3 e4 (List.mem_cons_of_mem _ hm)
    | bor => cases e1
  | [], _ :: _, vs, sg, sl, sl', h, q, _, _, e => by simp only [setE] at e; cases e
  | _ :: _, [], vs, sg, sl, sl', h, q, _, _, e => by simp only [setE] at e; cases e
theorem AtS.many {N0 N : AS} {pn : Pin} {sg : St} {H H' : Hp} {s : MS} {r : Rw} {vs : List V} {es : List EV} {is : List Nat} {sl' : Sl} (h : AtS G Y N0 pn N sg H s) (x : Ext G H H') (w : RowAt G H' r) (o : EvsOk G N H H' vs es) (k : setE s.sl is es = some sl') :
    ∃ N', AtS G Y N0 pn N' (setV sg is vs) H' ⟨sl', r⟩ := by
  obtain ⟨O, h1, h2, h3⟩ := o
  have q := h.but (O := O) x w h1
  refine ⟨_, q.slots (set_many (fun b ob => ⟨h.fm.fresh b (h1 b ob), fun z => z.2 ob⟩) q.at_.sl h2 h3 (fun j f w e1 e2 hm => ?_) k)⟩
  obtain ⟨b, rfl, ob⟩ := newsOf_mem h2 hm
  obtain ⟨b', e3, _, _, c3, r3⟩ := h.at_.sl.own j f e1
  rw [e2] at e3
  cases e3
  exact Top.live c3 r3 (h1 b ob)
def mPar (is : List Nat) (m : MA) : MSt := fun s => (m s).bind fun p => (setE s.sl is p.1).map fun sl => (.nx sl, p.2)
theorem ss_par {i j : Nat} {x y : Str} {m : MA} {px py pt : Pos} {kt k2 pt2} (hc : X.calm = true) (hN : X.N.Nodup) (hi : X.N[i]? = some x) (hj : X.N[j]? = some y) (hij : i ≠ j)
    (hx : X.env.scope.names.lookup x = some .local) (hy : X.env.scope.names.lookup y = some .local) (ha : SA G Y X [a, b] m)
    (hw : swappedStores [.Tuple [.Name x px, .Name y py] kt pt] (.Tuple [a, b] k2 pt2) X.env = pure (some [x, y]))
    (hs : swapsWithSole [.Tuple [.Name x px, .Name y py] kt pt] (.Tuple [a, b] k2 pt2) pos.line X.env = pure false := by rfl) :
    SS G Y X (.Assign [.Tuple [.Name x px, .Name y py] kt pt] (.Tuple [a, b] k2 pt2) pos) (mPar [i, j] m) := PS.weak (ps_par hc hN hi hj hij hx hy ha hw hs) fun D sg H h => by
  obtain ⟨N0, pn, N, s, fl, r, at_, q, k⟩ := h
  unfold mPar at q
  simp only [Option.bind_eq_some_iff, Option.map_eq_some_iff] at q
  obtain ⟨⟨es, r1⟩, h1, sl', h2, h3⟩ := q
  cases h3
  refine ⟨N, s, es, _, at_.at_, h1, fun vs H1 x w o => ?_⟩
  obtain ⟨N', q⟩ := at_.many x w o h2
  have hl : vs.length = 2 := by
    obtain ⟨O, _, o2, _⟩ := o
    rcases es with _ | ⟨e1, _ | ⟨e2, _ | ⟨e3, es⟩⟩⟩
    · simp [setE] at h2
    · simp [setE] at h2
    · simp only [EvL] at o2
      obtain ⟨v, t, rfl, _, u, t2, rfl, _, rfl⟩ := o2
      rfl
    · simp [setE] at h2
  rcases vs with _ | ⟨v, _ | ⟨u, _ | ⟨z, vs⟩⟩⟩ <;> simp at hl
  exact ⟨v, u, rfl, k _ H1 N' x.y q⟩
theorem ss_par3 {i j l : Nat} {x y z : Str} {m : MA} {px py pz pt pos : Pos} {kt k2 pt2} (hc : X.calm = true) (hN : X.N.Nodup) (hi : X.N[i]? = some x) (hj : X.N[j]? = some y) (hl : X.N[l]? = some z) (hij : i ≠ j) (hil : i ≠ l) (hjl : j ≠ l)
    (hx : X.env.scope.names.lookup x = some .local) (hy : X.env.scope.names.lookup y = some .local) (hz : X.env.scope.names.lookup z = some .local) (ha : SA G Y X [a, b, c] m)
    (hw : swappedStores [.Tuple [.Name x px, .Name y py, .Name z pz] kt pt] (.Tuple [a, b, c] k2 pt2) X.env = pure (some [x, y, z]))
    (hs : swapsWithSole [.Tuple [.Name x px, .Name y py, .Name z pz] kt pt] (.Tuple [a, b, c] k2 pt2) pos.line X.env = pure false := by rfl) :
    SS G Y X (.Assign [.Tuple [.Name x px, .Name y py, .Name z pz] kt pt] (.Tuple [a, b, c] k2 pt2) pos) (mPar [i, j, l] m) := PS.weak (ps_par3 hc hN hi hj hl hij hil hjl hx hy hz ha hw hs) fun D sg H h => by
  obtain ⟨N0, pn, N, s, fl, r, at_, q, k⟩ := h
  unfold mPar at q
  simp only [Option.bind_eq_some_iff, Option.map_eq_some_iff] at q
  obtain ⟨⟨es, r1⟩, h1, sl', h2, h3⟩ := q
  cases h3
  refine ⟨N, s, es, _, at_.at_, h1, fun vs H1 x w o => ?_⟩
  obtain ⟨N', q⟩ := at_.many x w o h2
  have hl : vs.length = 3 := by
    obtain ⟨O, _, o2, _⟩ := o
    rcases es with _ | ⟨e1, _ | ⟨e2, _ | ⟨e3, _ | ⟨e4, es⟩⟩⟩⟩
    · simp [setE] at h2
    · simp [setE] at h2
    · simp [setE] at h2
    · simp only [EvL] at o2
      obtain ⟨v, t, rfl, _, u, t2, rfl, _, z, t3, rfl, _, rfl⟩ := o2
      rfl
    · simp [setE] at h2
  rcases vs with _ | ⟨v, _ | ⟨u, _ | ⟨z, _ | ⟨z2, vs⟩⟩⟩⟩ <;> simp at hl
  exact ⟨v, u, z, rfl, k _ H1 N' x.y q⟩
/-- targets that are names -/
def gNames : List Nat → TGs
  | [] => gNil
  | i :: is => gCons (gName i) (gNames is)
theorem gNames_of {Q : St → Hp → Prop} {H : Hp} : ∀ {is : List Nat} {vs : List V} {sg : St}, vs.length = is.length → Q (setV sg is vs) H → gNames is vs sg H Q
  | [], vs, sg, hl, q => by
    have : vs = [] := List.length_eq_zero_iff.mp hl
    subst this
    exact ⟨rfl, q⟩
  | i :: is, vs, sg, hl, q => by
    cases vs with
    | nil => simp at hl
    | cons v t => exact ⟨v, t, rfl, gNames_of (by simpa using hl) q⟩
theorem setE_len : ∀ {is : List Nat} {es : List EV} {sl sl' : Sl}, setE sl is es = some sl' → es.length = is.length
  | [], [], _, _, _ => rfl
  | i :: is, e :: es, sl, sl', h => by
    simp only [setE, Option.bind_eq_some_iff] at h
    obtain ⟨sv, _, h⟩ := h
    simp [setE_len h]
  | [], _ :: _, _, _, h => by simp [setE] at h
  | _ :: _, [], _, _, h => by simp [setE] at h
theorem EvL.len {M O : AS} {H : Hp} : ∀ {es : List EV} {vs : List V}, EvL G M O H vs es → vs.length = es.length
  | [], vs, h => by simp only [EvL] at h; subst h; rfl
  | e :: es, vs, h => by
    simp only [EvL] at h
    obtain ⟨v, t, rfl, _, h⟩ := h
    simp [EvL.len h]
/-- (a, b, ..) = (x, y, ..) by way of the tuple -/
theorem ss_tupd {ts vs : List Expr} {is : List Nat} {m : MA} {kt k2} {pt pt2 : Pos} (hc : X.calm = true) (ha : SA G Y X vs m) (hg : PGs X ts (gNames is))
    (hil : is.length ≤ lim := by decide) (hn : (assignEach ts X.env).length = is.length := by rfl) (hst : (assignEach ts X.env).findIdx? (·.1) = none := by rfl)
    (hs : swapsWithSole [.Tuple ts kt pt] (.Tuple vs k2 pt2) pos.line X.env = pure false := by rfl) (hw : swappedStores [.Tuple ts kt pt] (.Tuple vs k2 pt2) X.env = pure none := by rfl)
    (h1 : (assignEach [.Tuple ts kt pt] X.env).map (·.2) = [assign (.Tuple ts kt pt) X.env] := by rfl) : SS G Y X (.Assign [.Tuple ts kt pt] (.Tuple vs k2 pt2) pos) (mPar is m) :=
  PS.weak (ps_asg (pe_tup ha) (pg_tup hc hg hn hst) hs hw h1) fun D sg H h => by
    obtain ⟨N0, pn, N, s, fl, r, at_, q, k⟩ := h
    unfold mPar at q
    simp only [Option.bind_eq_some_iff, Option.map_eq_some_iff] at q
    obtain ⟨⟨es, r1⟩, h1, sl', h2, h3⟩ := q
    cases h3
    refine ⟨N, s, es, _, at_.at_, h1, fun vs H1 x w o => ?_⟩
    have hl : vs.length = is.length := by
      obtain ⟨O, _, o2, _⟩ := id o
      rw [o2.len, setE_len h2]
    refine ⟨?_, fun p hp => ⟨p, vs, rfl, SqT.of upd_same, hl, gNames_of hl ?_⟩⟩
    · rw [hl]; exact lim_line hil
    · have x2 := x.trans (Ext.new (p := p) (o := .tup vs) hp)
      obtain ⟨N', q⟩ := at_.many x2 ((Grow.new hp).row _ w) (o.ext (Ext.new hp)) h2
      exact k _ _ N' x2.y q
/-- (a, b, ..) = a tuple -/
def mUnp (is : List Nat) (m : ME) : MSt := fun s => (m s).bind fun p => match p.1.d with
  | .tup l => (setE s.sl is (l.map datE)).map fun sl => (.nx sl, p.2)
  | _ => none
theorem evs_dat {N : AS} {H H' : Hp} : ∀ {l : List D} {vs : List V}, RepL G (Nf N H) H' vs l → EvsOk G N H H' vs (l.map datE) := by
  intro l vs h
  refine ⟨fun _ => False, fun _ z => z.elim, ?_, ?_⟩
  · induction l generalizing vs with
    | nil => simp only [RepL] at h; subst h; simp only [List.map_nil, EvL]
    | cons d r ih =>
      simp only [RepL] at h
      obtain ⟨v, t, rfl, h1, h2⟩ := h
      simp only [List.map_cons, EvL]
      exact ⟨v, t, rfl, Rep.mono (fun _ z => ⟨z, id⟩) h1, ih h2⟩
  · have : newsOf vs (l.map datE) = [] := by
      clear h
      induction l generalizing vs with
      | nil => cases vs <;> rfl
      | cons d r ih => cases vs <;> simp [newsOf, datE]; exact ih
    rw [this]
    exact List.nodup_nil
theorem ss_unp {ts : List Expr} {is : List Nat} {m : ME} {kt} {pt : Pos} (ft : Fit G X) (ha : SE G Y X e m) (hg : PGs X ts (gNames is))
    (hn : (assignEach ts X.env).length = is.length := by rfl) (hst : (assignEach ts X.env).findIdx? (·.1) = none := by rfl)
    (hs : swapsWithSole [.Tuple ts kt pt] e pos.line X.env = pure false := by rfl) (hw : swappedStores [.Tuple ts kt pt] e X.env = pure none := by rfl)
    (h1 : (assignEach [.Tuple ts kt pt] X.env).map (·.2) = [assign (.Tuple ts kt pt) X.env] := by rfl) : SS G Y X (.Assign [.Tuple ts kt pt] e pos) (mUnp is m) :=
  PS.weak (ps_asg ha (pg_tup ft.calm hg hn hst) hs hw h1) fun D sg H h => by
    obtain ⟨N0, pn, N, s, fl, r, at_, q, k⟩ := h
    unfold mUnp at q
    simp only [Option.bind_eq_some_iff] at q
    obtain ⟨⟨⟨d, kd⟩, r1⟩, h1, h2⟩ := q
    cases d <;> simp only at h2 <;> try cases h2
    rename_i l
    obtain ⟨sl', h3, h4⟩ := Option.map_eq_some_iff.mp h2
    cases h4
    refine ⟨N, s, _, _, at_.at_, h1, fun v H1 x w o => ?_⟩
    obtain ⟨p, vs, rfl, ea, ra⟩ := o.top.tup
    have hl : vs.length = is.length := by rw [ra.len, ← setE_len h3, List.length_map]
    refine ⟨p, vs, rfl, SqT.of ea, hl, gNames_of hl ?_⟩
    obtain ⟨N', q⟩ := at_.many x w (evs_dat ra) h3
    exact k _ _ N' x.y q
end
end GD
/-! Gi -/
set_option maxHeartbeats 4000000
/-! Gi: one's own lists and dicts changed; loops; defs. -/
namespace GD
open PySem L2
section
variable {G : GC} {Y : AS} {X : Cx} {e a b c : Expr} {es : List Expr} {pos : Pos}
theorem Top.obj {N : AS} {H : Hp} {p : Addr} {d : D} (c : isCont d = true) (r : Top G N H (.ref p) d) : ∃ u, H p = some u ∧ (∀ xs, u ≠ .tup xs) ∧ ∀ ps, u ≠ .tbl ps := by
  cases d <;> simp [isCont] at c
  · obtain ⟨b, vs, e1, _, e2, _⟩ := r; cases e1; exact ⟨_, e2, (fun _ z => by cases z), (fun _ z => by cases z)⟩
  · obtain ⟨b, vs, e1, _, e2, _⟩ := r; cases e1; exact ⟨_, e2, (fun _ z => by cases z), (fun _ z => by cases z)⟩
  · obtain ⟨b, vs, e1, _, e2, _⟩ := r; cases e1; exact ⟨_, e2, (fun _ z => by unfold DO at z; cases z), (fun _ z => by unfold DO at z; cases z)⟩
theorem Top.fixc {N : AS} {H H' : Hp} {p : Addr} {d : D} (c : isCont d = true) (f : Fix G N H H') (e : H' p = H p) (r : Top G N H (.ref p) d) : Top G N H' (.ref p) d := by
  cases d <;> simp [isCont] at c
  · obtain ⟨b, vs, e1, ro, e2, r⟩ := r; cases e1; exact ⟨p, vs, rfl, ro, by rw [e]; exact e2, RepL.fix f (fun _ z => z) _ _ r⟩
  · obtain ⟨b, vs, e1, ro, e2, r⟩ := r; cases e1; exact ⟨p, vs, rfl, ro, by rw [e]; exact e2, RepI.fix f (fun _ z => z) _ _ r⟩
  · obtain ⟨b, vs, e1, ro, e2, r⟩ := r; cases e1; exact ⟨p, vs, rfl, ro, by rw [e]; exact e2, RepT.fix f (fun _ z => z) _ _ r⟩
theorem fix_mut {N : AS} {H : Hp} {p : Addr} {u o : HO} (hu : H p = some u) (nt : ∀ xs, u ≠ .tup xs) (n : ¬ N p) : Fix G N H (upd H p o) :=
  ⟨fun b xs e => by
    have : b ≠ p := fun z => by rw [z, hu] at e; exact nt xs (Option.some.inj e)
    rw [upd_ne this]; exact e, fun b o' nb _ e _ => by
    have : b ≠ p := fun z => n (z ▸ nb)
    rw [upd_ne this]; exact e⟩
/-- a slot's own container is changed -/
theorem AtS.mut {N0 N : AS} {pn : Pin} {sg : St} {H : Hp} {s : MS} {i : Nat} {d d' : D} {p : Addr} {o : HO} (h : AtS G Y N0 pn N sg H s) (hs : s.sl[i]? = some (some (.own d))) (ea : sg[i]? = some (some (.ref p))) (c' : isCont d' = true)
    (new : Fix G N H (upd H p o) → Top G N (upd H p o) (.ref p) d') : AtS G Y N0 pn N sg (upd H p o) ⟨s.sl.set i (some (.own d')), s.rw⟩ ∧ ExtY G Y H (upd H p o) := by
  obtain ⟨p', e1, y, n, c, r⟩ := h.at_.sl.own i d hs
  rw [ea] at e1
  cases e1
  obtain ⟨u, hu, nt, nb⟩ := Top.obj c r
  have ro := Top.nro c r
  have fx : Fix G N H (upd H p o) := fix_mut hu nt n
  have ey : ExtY G Y H (upd H p o) := ⟨fun b o' e ny _ _ => by
    have : b ≠ p := fun z => ny (z ▸ y)
    rw [upd_ne this]; exact e, fx.tups, fun b e => by
    by_cases z : b = p
    · subst z; rw [upd_same] at e; cases e
    · rw [upd_ne z] at e; exact e⟩
  have hl : i < sg.length := (List.getElem?_eq_some_iff.mp ea).1
  refine ⟨⟨⟨⟨fun j f e => ?_, fun j f e => ?_, fun j k f g b q1 q2 q3 q4 => ?_, by rw [List.length_set]; exact h.at_.sl.len⟩, ?_, h.at_.nro⟩, h.fm.ext ey, h.sub, h.pin.fix fx fun _ z => z⟩, ey⟩
  · rcases set_get e with ⟨rfl, q⟩ | ⟨ne, q⟩
    · cases q
    · obtain ⟨v, e2, r2⟩ := h.at_.sl.dat j f q
      exact ⟨v, e2, Rep.fix fx (fun _ z => z) _ _ r2⟩
  · rcases set_get e with ⟨rfl, q⟩ | ⟨ne, q⟩
    · cases q
      exact ⟨p, ea, y, n, c', new fx⟩
    · obtain ⟨b, e2, y2, n2, c2, r2⟩ := h.at_.sl.own j f q
      have hb : b ≠ p := fun z => ne (h.at_.sl.sep i j d f p hs q ea (z ▸ e2))
      exact ⟨b, e2, y2, n2, c2, Top.fixc c2 fx (upd_ne hb) r2⟩
  · have old : ∀ {j : Nat} {f : D}, (s.sl.set i (some (.own d')))[j]? = some (some (.own f)) → ∃ f', s.sl[j]? = some (some (.own f')) := fun {j f} q => by
      rcases set_get q with ⟨rfl, _⟩ | ⟨_, q⟩
      · exact ⟨d, hs⟩
      · exact ⟨f, q⟩
    obtain ⟨f', q1⟩ := old q1
    obtain ⟨g', q2⟩ := old q2
    exact h.at_.sl.sep j k f' g' b q1 q2 q3 q4
  · obtain ⟨w1, w2, w3⟩ := h.at_.row
    refine ⟨by rw [upd_ne ro.symm]; exact w1, ?_, fun P hP => ?_⟩
    · rcases h.fm.nsc with q | q
      · have hsc : G.sc ≠ p := fun z => q (z ▸ y)
        rcases w2 with (w2 | ⟨ob, w2⟩) | w2
        · exact .inl (.inl (by rw [upd_ne hsc]; exact w2))
        · exact .inl (.inr ⟨ob, by rw [upd_ne hsc]; exact w2⟩)
        · exact .inr w2
      · exact .inr q
    · obtain ⟨ps, t1, t2⟩ := w3 P hP
      have : P ≠ p := fun z => by rw [z, hu] at t1; exact nb ps (Option.some.inj t1)
      exact ⟨ps, by rw [upd_ne this]; exact t1, t2⟩
/-! ### x.append(e) -/
def ownAt (i : Nat) (sl : Sl) : Option D := match sl[i]? with
  | some (some (.own d)) => some d
  | _ => none
theorem ownAt_some {i : Nat} {sl : Sl} {d : D} (h : ownAt i sl = some d) : sl[i]? = some (some (.own d)) := by
  unfold ownAt at h
  split at h
  · rename_i d' hd
    cases h
    exact hd
  · cases h
def mApp (i : Nat) (m : ME) : MSt := fun s => (m s).bind fun p => if noBorK p.1 = true then (ownAt i s.sl).bind fun d => match d with
  | .lst l => if l.length < lim then some (.nx (s.sl.set i (some (.own (.lst (l ++ [p.1.d]))))), p.2) else none
  | _ => none
  else none
theorem ss_app {i : Nat} {o : Expr} {m : ME} {apos cpos : Pos} (ft : Fit G X) (ho : PE X o (tVar i)) (he : SE G Y X e m)
    (h : PE X (.Call (.Attribute o "append" apos) [e] [] cpos) (tBM X.K "list" rAppend (tVar i) (tCons (rdE G Y m) tNil))) (hs : swapsWith (.Call (.Attribute o "append" apos) [e] [] cpos) none pos.line X.env = pure false := by rfl) :
    SS G Y X (.Expr (.Call (.Attribute o "append" apos) [e] [] cpos) pos) (mApp i m) := PS.weak (ps_expr h hs) fun D sg H h => by
  obtain ⟨N0, pn, N, s, fl, r, at_, q, k⟩ := h
  unfold mApp at q
  simp only [Option.bind_eq_some_iff] at q
  obtain ⟨⟨e1, r1⟩, h1, h2⟩ := q
  simp only at h2
  split at h2
  · rename_i hb
    simp only [Option.bind_eq_some_iff] at h2
    obtain ⟨d, h3, h4⟩ := h2
    cases d <;> simp only at h4 <;> try cases h4
    rename_i l
    split at h4
    · rename_i hl
      cases h4
      have h3 := ownAt_some h3
      obtain ⟨p, e2, y, n, c, ⟨p', vs, e3, ro, e4, rl⟩⟩ := at_.at_.sl.own i _ h3
      cases e3
      refine ⟨_, e2, .inl ⟨rfl, vs, SqL.of e4⟩, N, s, e1, r, at_.at_, h1, fun v H1 x w o => ?_⟩
      have e5 : H1 p = some (.lst vs) := x.keep p _ e4 ro fun ps z => by cases z
      have rv := o.rep (by simpa [noBorK] using hb)
      have at1 := at_.wide x w
      refine ⟨p, vs, v, rfl, rfl, e5, Nat.lt_of_lt_of_le (by rw [rl.len]; exact hl) (by decide : lim ≤ sizeLine), ?_⟩
      obtain ⟨q1, q2⟩ := at1.mut (o := .lst (vs ++ [v])) (d' := .lst (l ++ [e1.d])) h3 e2 rfl fun fx =>
        ⟨p, vs ++ [v], rfl, ro, upd_same, RepL.append (RepL.fix fx (fun _ z => z) _ _ ((rl.mono nf_of).ext x)) (RepL.cons (Rep.fix fx (fun _ z => z) _ _ rv) RepL.nil)⟩
      exact k sg _ _ (x.y.trans q2) q1
    · cases h4
  · cases h2
/-! ### x[k] = e -/
def mSetI (i : Nat) (mk mv : ME) : MSt := fun s => (mv s).bind fun p => (mk ⟨s.sl, p.2⟩).bind fun q => if noBorK p.1 = true then (ownAt i s.sl).bind fun d => match d, q.1.d with
  | .lst l, .int j => (ixN l.length j).map fun n => (.nx (s.sl.set i (some (.own (.lst (l.set n p.1.d))))), q.2)
  | _, _ => none
  else none
theorem RepL.set {N : AS} {H : Hp} {v : V} {d : D} (r : Rep G N H v d) : ∀ {l : List D} {vs : List V} (n : Nat), RepL G N H vs l → RepL G N H (vs.set n v) (l.set n d)
  | [], vs, n, h => by simp only [RepL] at h; subst h; exact RepL.nil
  | x :: t, vs, n, h => by
    simp only [RepL] at h
    obtain ⟨u, w, rfl, h1, h2⟩ := h
    cases n with
    | zero => exact RepL.cons r h2
    | succ n => exact RepL.cons h1 (RepL.set r n h2)
theorem ss_setI {i : Nat} {o : Expr} {mk mv : ME} {pos' : Pos} (ho : PE X o (tVar i)) (hk : SE G Y X a mk) (hv : SE G Y X e mv) (h : PS X (.Assign [.Subscript o a pos'] e pos) (tAsg (rdE G Y mv) (gSub (tVar i) (rdE G Y mk) rSetL))) :
    SS G Y X (.Assign [.Subscript o a pos'] e pos) (mSetI i mk mv) := PS.weak h fun D sg H h => by
  obtain ⟨N0, pn, N, s, fl, r, at_, q, k⟩ := h
  unfold mSetI at q
  simp only [Option.bind_eq_some_iff] at q
  obtain ⟨⟨e1, r1⟩, h1, ⟨e2, r2⟩, h2, h3⟩ := q
  simp only at h3
  split at h3
  · rename_i hb
    simp only [Option.bind_eq_some_iff] at h3
    obtain ⟨d, h4, h5⟩ := h3
    obtain ⟨dk, kk⟩ := e2
    cases d <;> cases dk <;> simp only at h5 <;> try cases h5
    rename_i l j
    obtain ⟨n0, h6, h7⟩ := Option.map_eq_some_iff.mp h5
    cases h7
    have h4 := ownAt_some h4
    obtain ⟨p, e2, y, n, c, ⟨p', vs, e3, ro, e4, rl⟩⟩ := at_.at_.sl.own i _ h4
    cases e3
    refine ⟨N, s, e1, r1, at_.at_, h1, fun v H1 x w o => ⟨_, e2, N, ⟨s.sl, r1⟩, _, _, at_.at_.ext x w, h2, fun kv H2 x2 w2 o2 => ?_⟩⟩
    have x3 := x.trans x2
    have e5 : H2 p = some (.lst vs) := x3.keep p _ e4 ro fun ps z => by cases z
    have rv := (o.rep (by simpa [noBorK] using hb)).ext x2
    refine ⟨p, vs, j, n0, rfl, ev_int o2, e5, by rw [rl.len]; exact h6, ?_⟩
    have at1 := at_.wide x3 w2
    obtain ⟨q1, q2⟩ := at1.mut (o := .lst (vs.set n0 v)) (d' := .lst (l.set n0 e1.d)) h4 e2 rfl fun fx =>
      ⟨p, vs.set n0 v, rfl, ro, upd_same, RepL.set (Rep.fix fx (fun _ z => z) _ _ rv) n0 (RepL.fix fx (fun _ z => z) _ _ ((rl.mono nf_of).ext x3))⟩
    exact k sg _ _ (x3.y.trans q2) q1
  · cases h3
/-- a dict of ints -/
def putI (l : List (Int × D)) (i : Int) (d : D) : List (Int × D) := if (l.any fun p => decide (p.1 = i)) = true then l.map fun p => if p.1 = i then (p.1, d) else p else l ++ [(i, d)]
def mPutI (i : Nat) (mk mv : ME) : MSt := fun s => (mv s).bind fun p => (mk ⟨s.sl, p.2⟩).bind fun q => if noBorK p.1 = true then (ownAt i s.sl).bind fun d => match d, q.1.d with
  | .dI l, .int j => if l.length < lim then some (.nx (s.sl.set i (some (.own (.dI (putI l j p.1.d))))), q.2) else none
  | _, _ => none
  else none
def rPutI : V → V → V → Hp → (Hp → Prop) → Prop := fun o i v H Q => ∃ p ks k, o = .ref p ∧ i = .int k ∧ H p = some (.dK ks) ∧ ks.length < sizeLine ∧ Q (upd H p (.dK (putK ks (Sum.inl k) v)))
theorem pset_dI {k : Nat} (hr : Room k X.A) : PSet X rPutI := by
  intro pins s σ H o i v ov iv u Q I ro ri rv ⟨p, ks, kk, h1, h2, h3, h4, q⟩
  subst h1 h2
  cases ro
  exact d_setItem (hu_of hr) I (DPut.k (k := Sum.inl kk) h3 h4) ri rv fun s' I' => ⟨_, I', q⟩
theorem RepI.len {N : AS} {H : Hp} : ∀ {l : List (Int × D)} {ks : List (Key × V)}, RepI G N H ks l → ks.length = l.length
  | [], ks, h => by simp only [RepI] at h; subst h; rfl
  | (i, d) :: r, ks, h => by
    simp only [RepI] at h
    obtain ⟨v, t, rfl, _, h2⟩ := h
    simp [RepI.len h2]
theorem RepI.any {N : AS} {H : Hp} {j : Int} : ∀ {l : List (Int × D)} {ks : List (Key × V)}, RepI G N H ks l → (ks.any fun kv => decide (kv.1 = Sum.inl j)) = l.any fun p => decide (p.1 = j)
  | [], ks, h => by simp only [RepI] at h; subst h; rfl
  | (i, d) :: r, ks, h => by
    simp only [RepI] at h
    obtain ⟨v, t, rfl, _, h2⟩ := h
    rw [List.any_cons, List.any_cons, RepI.any h2]
    congr 1
    by_cases hij : i = j
    · subst hij; simp
    · have : ¬ (Sum.inl i : Key) = Sum.inl j := fun z => hij (Sum.inl.inj z)
      rw [decide_eq_false this, decide_eq_false hij]
theorem RepI.put {N : AS} {H : Hp} {l : List (Int × D)} {ks : List (Key × V)} {j : Int} {v : V} {d : D} (h : RepI G N H ks l) (r : Rep G N H v d) : RepI G N H (putK ks (Sum.inl j) v) (putI l j d) := by
  unfold putK putI
  rw [h.any]
  split
  · rename_i hc
    clear hc
    induction l generalizing ks with
    | nil => simp only [RepI] at h; subst h; simp only [List.map_nil, RepI]
    | cons p t ih =>
      obtain ⟨i, d0⟩ := p
      simp only [RepI] at h
      obtain ⟨w, t', rfl, h1, h2⟩ := h
      simp only [List.map_cons]
      by_cases hij : i = j
      · subst hij
        simp only [if_pos, RepI]
        exact ⟨v, _, rfl, r, ih h2⟩
      · have : ¬ (Sum.inl i : Key) = Sum.inl j := fun z => hij (Sum.inl.inj z)
        simp only [if_neg this, if_neg hij, RepI]
        exact ⟨w, _, rfl, h1, ih h2⟩
  · rename_i hc
    clear hc
    induction l generalizing ks with
    | nil => simp only [RepI] at h; subst h; simp only [List.nil_append, RepI]; exact ⟨v, [], rfl, r, rfl⟩
    | cons p t ih =>
      obtain ⟨i, d0⟩ := p
      simp only [RepI] at h
      obtain ⟨w, t', rfl, h1, h2⟩ := h
      simp only [List.cons_append, RepI]
      exact ⟨w, _, rfl, h1, ih h2⟩
theorem ss_putI {i : Nat} {o : Expr} {mk mv : ME} {pos' : Pos} (ho : PE X o (tVar i)) (hk : SE G Y X a mk) (hv : SE G Y X e mv) (h : PS X (.Assign [.Subscript o a pos'] e pos) (tAsg (rdE G Y mv) (gSub (tVar i) (rdE G Y mk) rPutI))) :
    SS G Y X (.Assign [.Subscript o a pos'] e pos) (mPutI i mk mv) := PS.weak h fun D sg H h => by
  obtain ⟨N0, pn, N, s, fl, r, at_, q, k⟩ := h
  unfold mPutI at q
  simp only [Option.bind_eq_some_iff] at q
  obtain ⟨⟨e1, r1⟩, h1, ⟨e2, r2⟩, h2, h3⟩ := q
  simp only at h3
  split at h3
  · rename_i hb
    simp only [Option.bind_eq_some_iff] at h3
    obtain ⟨d, h4, h5⟩ := h3
    obtain ⟨dk, kk⟩ := e2
    cases d <;> cases dk <;> simp only at h5 <;> try cases h5
    rename_i l j
    split at h5
    · rename_i hl
      cases h5
      have h4 := ownAt_some h4
      obtain ⟨p, e2, y, n, c, ⟨p', ks, e3, ro, e4, rl⟩⟩ := at_.at_.sl.own i _ h4
      cases e3
      refine ⟨N, s, e1, r1, at_.at_, h1, fun v H1 x w o => ⟨_, e2, N, ⟨s.sl, r1⟩, _, _, at_.at_.ext x w, h2, fun kv H2 x2 w2 o2 => ?_⟩⟩
      have x3 := x.trans x2
      have e5 : H2 p = some (.dK ks) := x3.keep p _ e4 ro fun ps z => by cases z
      have rv := (o.rep (by simpa [noBorK] using hb)).ext x2
      refine ⟨p, ks, j, rfl, ev_int o2, e5, lim_lt (by rw [rl.len]; exact Nat.le_of_lt hl), ?_⟩
      have at1 := at_.wide x3 w2
      obtain ⟨q1, q2⟩ := at1.mut (o := .dK (putK ks (Sum.inl j) v)) (d' := .dI (putI l j e1.d)) h4 e2 rfl fun fx =>
        ⟨p, _, rfl, ro, upd_same, RepI.put (RepI.fix fx (fun _ z => z) _ _ (RepI.fix x3.fix nf_of _ _ rl)) (Rep.fix fx (fun _ z => z) _ _ rv)⟩
      exact k sg _ _ (x3.y.trans q2) q1
    · cases h5
  · cases h3
/-- a dict with tuple keys -/
def putT (l : List (D × D)) (k d : D) : List (D × D) := if (l.any fun p => keq p.1 k) = true then l.map fun p => if keq p.1 k = true then (p.1, d) else p else l ++ [(k, d)]
def storeE (es : List (NestedKey × Addr × V)) (k : NestedKey) (p : Addr) (v : V) : List (NestedKey × Addr × V) :=
  if (es.any fun x => decide (x.1 = k)) = true then es.map fun x => if x.1 = k then (x.1, x.2.1, v) else x else es ++ [(k, p, v)]
theorem RepT.len {N : AS} {H : Hp} : ∀ {l : List (D × D)} {ks : List (NestedKey × Addr × V)}, RepT G N H ks l → ks.length = l.length
  | [], ks, h => by simp only [RepT] at h; subst h; rfl
  | (i, d) :: r, ks, h => by
    simp only [RepT] at h
    obtain ⟨p, v, t, rfl, _, _, _, h2⟩ := h
    simp [RepT.len h2]
theorem RepT.any {N : AS} {H : Hp} {k : D} : ∀ {l : List (D × D)} {ks : List (NestedKey × Addr × V)}, RepT G N H ks l → (ks.any fun x => decide (x.1 = nk k)) = l.any fun p => keq p.1 k
  | [], ks, h => by simp only [RepT] at h; subst h; rfl
  | (i, d) :: r, ks, h => by
    simp only [RepT] at h
    obtain ⟨p, v, t, rfl, _, _, _, h2⟩ := h
    rw [List.any_cons, List.any_cons, RepT.any h2]
    rfl
theorem RepT.put {N : AS} {H : Hp} {l : List (D × D)} {es : List (NestedKey × Addr × V)} {k d : D} {p : Addr} {v : V} (h : RepT G N H es l) (ck : keyOk k = true) (rk : Rep G N H (.ref p) k) (r : Rep G N H v d) : RepT G N H (storeE es (nk k) p v) (putT l k d) := by
  unfold storeE putT
  rw [h.any]
  split
  · rename_i hc
    clear hc
    induction l generalizing es with
    | nil => simp only [RepT] at h; subst h; simp only [List.map_nil, RepT]
    | cons q t ih =>
      obtain ⟨i, d0⟩ := q
      simp only [RepT] at h
      obtain ⟨b, w, t', rfl, c1, h0, h1, h2⟩ := h
      simp only [List.map_cons]
      by_cases hij : nk i = nk k
      · have hq : keq i k = true := decide_eq_true hij
        simp only [hq, if_pos, RepT]
        rw [if_pos hij]
        exact ⟨b, v, _, rfl, c1, h0, r, ih h2⟩
      · have hq : keq i k = false := decide_eq_false hij
        simp only [hq, if_neg Bool.false_ne_true, RepT]
        rw [if_neg hij]
        exact ⟨b, w, _, rfl, c1, h0, h1, ih h2⟩
  · rename_i hc
    clear hc
    induction l generalizing es with
    | nil => simp only [RepT] at h; subst h; simp only [List.nil_append, RepT]; exact ⟨p, v, [], rfl, ck, rk, r, rfl⟩
    | cons q t ih =>
      obtain ⟨i, d0⟩ := q
      simp only [RepT] at h
      obtain ⟨b, w, t', rfl, c1, h0, h1, h2⟩ := h
      simp only [List.cons_append, RepT]
      exact ⟨b, w, _, rfl, c1, h0, h1, ih h2⟩
theorem store_any {es : List (NestedKey × Addr × V)} {xs : List (NestedKey × Addr × Value)} {k : NestedKey} (r : Paired RelE es xs) : (es.any fun x => decide (x.1 = k)) = (atKey xs k).isSome := by
  induction r with
  | nil => rfl
  | @cons q y t w h1 h2 ih =>
    rw [List.any_cons, ih]
    have e1 : q.1 = y.1 := h1.1
    by_cases hk : y.1 = k
    · simp [atKey, List.find?_cons, hk, e1]
    · simp [atKey, List.find?_cons, hk, e1]
theorem store_map {es : List (NestedKey × Addr × V)} {xs : List (NestedKey × Addr × Value)} {k : NestedKey} {v : V} {u : Value} (r : Paired RelE es xs) (rv : RelV v u) :
    Paired RelE (es.map fun x => if x.1 = k then (x.1, x.2.1, v) else x) (xs.map (putAt k u)) := by
  induction r with
  | nil => exact .nil
  | @cons q y t w h1 h2 ih =>
    simp only [List.map_cons]
    refine .cons ?_ ih
    have e1 : q.1 = y.1 := h1.1
    unfold putAt
    by_cases hk : y.1 = k
    · rw [if_pos (e1.trans hk), if_pos hk]
      exact ⟨e1, h1.2.1, rv⟩
    · rw [if_neg (fun z => hk (e1 ▸ z)), if_neg hk]
      exact h1
theorem store_snoc {es : List (NestedKey × Addr × V)} {xs : List (NestedKey × Addr × Value)} {k : NestedKey} {p : Addr} {v : V} {u : Value} (r : Paired RelE es xs) (rv : RelV v u) :
    Paired RelE (es ++ [(k, p, v)]) (xs ++ [(k, p, u)]) := by
  induction r with
  | nil => exact .cons ⟨rfl, rfl, rv⟩ .nil
  | cons h1 h2 ih => rw [List.cons_append, List.cons_append]; exact .cons h1 ih
theorem store_paired {es : List (NestedKey × Addr × V)} {xs : List (NestedKey × Addr × Value)} {k : NestedKey} {p : Addr} {v : V} {u : Value} (r : Paired RelE es xs) (rv : RelV v u) : Paired RelE (storeE es k p v) (storedH xs k p u) := by
  unfold storeE storedH
  rw [store_any r]
  split
  · exact store_map r rv
  · exact store_snoc r rv
theorem storeE_len (es : List (NestedKey × Addr × V)) (k : NestedKey) (p : Addr) (v : V) : (storeE es k p v).length ≤ es.length + 1 := by
  unfold storeE
  split <;> simp
/-- a dict's object stands as told -/
theorem do_ok {P : Program} {w : World} {H' : Hp} {h' : Heap} {p : Addr} {es : List (NestedKey × Addr × V)} {xs : List (NestedKey × Addr × Value)} (hP : P = G.P) (hw : w = G.w) (z : es.length ≤ sizeLine) (y : (p == sysModules) = false) (r : Paired RelE es xs) (d : h'.DictOfH (nestedKind P w) p xs) : ∃ o, ObjOk P w H' h' p (DO G p (o, es)) := by
  subst hP hw
  obtain ⟨o, E, ep, h1, h2, h3, h4, _, h5⟩ := d
  refine ⟨o, ⟨z, y, xs, r, E, ep, h1, h2, h3, h4, h5⟩, ⟨o, h1⟩, fun a1 a2 q1 q2 => ?_⟩
  obtain ⟨z', y', xs', r', E', ep', k1, k2⟩ := q1
  exact ⟨z', y', xs', r', E', ep', q2 _ k1, k2⟩
def rPutT (G : GC) : V → V → V → Hp → (Hp → Prop) → Prop := fun o i v H Q => ∃ (M : AS) (p b : Addr) (es : DE) (l : List (D × D)) (k : D), o = .ref p ∧ i = .ref b ∧ H p = some (DO G p es) ∧ RepT G M H es.2 l ∧ keyOk k = true ∧ Rep G M H (.ref b) k ∧ es.2.length < sizeLine ∧ ∀ ob, Q (upd H p (DO G p (ob, storeE es.2 (nk k) b v)))
theorem pset_do {k : Nat} (ft : Fit G X) (hr : Room k X.A) : PSet X (rPutT G) := by
  intro pins s σ H o i v ov iv u Q I ro ri rv ⟨M, p, b, es, l, kk, h1, h2, h3, h4, h5, h6, h7, q⟩
  subst h1 h2
  cases ro
  cases ri
  obtain ⟨_, hm, xs, pr, dd⟩ := do_at ft I h3 h4
  have hl : es.2.length = xs.length := Paired.length pr
  have roo : (nestedKind X.prog X.w).room X.A.in1 := by
    have := hr.un
    show X.A.in1.units + 8 < cLine
    rw [Around.in1_units]
    omega
  refine wpAny_setItem_heap (hsz := by omega) roo (Rep.key ft I h6 h5) dd fun h' dd' hs => ?_
  obtain ⟨ob, ok⟩ := do_ok (H' := upd H p (DO G p es)) ft.P ft.w (Nat.le_trans (storeE_len _ _ _ _) h7) hm (store_paired pr rv) dd'
  refine ⟨_, ?_, q ob⟩
  have he : ∃ q, h'.get? p = some q := let ⟨q, _, _, hq, _⟩ := dd'; ⟨q, hq⟩
  exact I.write (x := p) (e := p) (by rw [h3]; trivial) (.inl rfl) (fun b u hb z => (hs.2 b hb).trans z) he ok
def mPutT (i : Nat) (mk mv : ME) : MSt := fun s => (mv s).bind fun p => (mk ⟨s.sl, p.2⟩).bind fun q => if (noBorK p.1 && keyOk q.1.d) = true then (ownAt i s.sl).bind fun d => match d with
  | .dT l => if l.length < lim then some (.nx (s.sl.set i (some (.own (.dT (putT l q.1.d p.1.d))))), q.2) else none
  | _ => none
  else none
theorem ss_putT {i : Nat} {o : Expr} {mk mv : ME} {pos' : Pos} (ho : PE X o (tVar i)) (hk : SE G Y X a mk) (hv : SE G Y X e mv) (h : PS X (.Assign [.Subscript o a pos'] e pos) (tAsg (rdE G Y mv) (gSub (tVar i) (rdE G Y mk) (rPutT G)))) :
    SS G Y X (.Assign [.Subscript o a pos'] e pos) (mPutT i mk mv) := PS.weak h fun D sg H h => by
  obtain ⟨N0, pn, N, s, fl, r, at_, q, k⟩ := h
  unfold mPutT at q
  simp only [Option.bind_eq_some_iff] at q
  obtain ⟨⟨e1, r1⟩, h1, ⟨e2, r2⟩, h2, h3⟩ := q
  simp only at h3
  split at h3
  · rename_i hb
    simp only [Option.bind_eq_some_iff] at h3
    obtain ⟨d, h4, h5⟩ := h3
    cases d <;> simp only at h5 <;> try cases h5
    rename_i l
    split at h5
    · rename_i hl
      cases h5
      rw [Bool.and_eq_true] at hb
      have h4 := ownAt_some h4
      obtain ⟨p, ep, y, n, c, ⟨p', ks, e3, ro, e4, rl⟩⟩ := at_.at_.sl.own i _ h4
      cases e3
      refine ⟨N, s, e1, r1, at_.at_, h1, fun v H1 x w o => ⟨_, ep, N, ⟨s.sl, r1⟩, _, _, at_.at_.ext x w, h2, fun kv H2 x2 w2 o2 => ?_⟩⟩
      have x3 := x.trans x2
      have e5 : H2 p = some (DO G p ks) := x3.keep p _ e4 ro fun ps z => by unfold DO at z; cases z
      have rv := (o.rep (by simpa [noBorK] using hb.1)).ext x2
      have rk : Rep G (Nf N H) H2 kv e2.d := by
        have o2 := o2.top
        obtain ⟨dk, kk⟩ := e2
        cases dk <;> simp [keyOk] at hb
        exact Rep.mono (Nf.mono x) o2
      obtain ⟨b, rfl⟩ := key_ref rk hb.2
      have rl2 := RepT.fix x3.fix (nf_of (N := N) (H := H)) _ _ rl
      refine ⟨Nf N H, p, b, ks, l, e2.d, rfl, rfl, e5, rl2, hb.2, rk, lim_lt (by rw [rl.len]; exact Nat.le_of_lt hl), fun ob => ?_⟩
      have at1 := at_.wide x3 w2
      obtain ⟨q1, q2⟩ := at1.mut (o := DO G p (ob, storeE ks.2 (nk e2.d) b v)) (d' := .dT (putT l e2.d e1.d)) h4 ep rfl fun fx =>
        ⟨p, _, rfl, ro, upd_same, RepT.put (RepT.fix fx (fun _ z => z) _ _ rl2) hb.2 (Rep.fix fx (fun _ z => z) _ _ rk) (Rep.fix fx (fun _ z => z) _ _ rv)⟩
      exact k sg _ _ (x3.y.trans q2) q1
    · cases h5
  · cases h3
end
end GD
/-! Gj -/
set_option maxHeartbeats 4000000
/-! Gj: iterators: enumerate(tuple), zip(list, tuple), a dict with tuple keys. -/
namespace GD
open PySem PySem.Spec PyProof.Rows L2
open Sem (wp)
theorem tupleIter_ne {h : Heap} {it a : Addr} {i : Nat} {items : Array Value} (x : h.IsTupleIter it a i) (y : h.IsTuple a items) : a ≠ it := fun e => by
  subst e
  obtain ⟨o, h1, h2, _⟩ := x
  obtain ⟨o', h3, h4, _⟩ := y
  rw [h1] at h3
  cases h3
  rw [h2] at h4
  exact absurd h4 (by decide)
/-! ### enumerate(tuple) -/
def IteT (K : PySem.W.Frag) (a : Addr) : It :=
  ⟨fun i H => ∃ (xs : List V) (x : V), SqT K H a xs ∧ xs[i]? = some x, fun i H v H' => ∃ T x, v = .ref T ∧ H T = none ∧ H' = upd H T (.tup [.int (i : Nat), x]) ∧ ∀ xs, SqT K H a xs → xs[i]? = some x, fun i H => ∃ xs : List V, SqT K H a xs ∧ xs.length = i⟩
theorem turn_enumT {P : Program} {w : World} {K : PySem.W.Frag} {elts : List Expr} {kk : Nat} {tpos : Pos} (a e it : Addr) :
    Turn P w K (.Tuple elts kk tpos) (IteT K a) [e, it] e (fun i h => (∃ old, IsEnum h e it ((i : Nat) : Int) old) ∧ h.IsTupleIter it a i ∧ e ≠ it) where
  mem := by simp
  obj := fun i h st b hb => by
    obtain ⟨⟨old, he⟩, ⟨o, ho, hc, hd⟩, _⟩ := st
    have e' : b = e ∨ b = it := by simpa using hb
    rcases e' with z | z
    · rw [z]; exact ⟨_, he, fun v q => nomatch q⟩
    · rw [z]; exact ⟨o, ho, fun v q => by rw [hd] at q; cases q⟩
  keep := fun i h h' st k => let ⟨⟨old, he⟩, hi, hne⟩ := st; ⟨⟨old, k e (by simp) _ he⟩, hi.at fun o q => k it (by simp) o q, hne⟩
  item := by
    intro X hP hw hK hc i pins s σ H E I hf st hg
    subst hP hw hK
    obtain ⟨⟨old, he⟩, hit, hne⟩ := st
    obtain ⟨xs, x, hq, hx⟩ := hg
    obtain ⟨its, rv, p, hz⟩ := I.tuple hq
    obtain ⟨u, hu, ru⟩ := rv.get hx
    have hel : e < s.heap.objs.size := Heap.lt_size he
    have hil : it < s.heap.objs.size := by obtain ⟨_, q, _⟩ := hit; exact Heap.lt_size q
    have pt : s.heap.IsTuple a its.toArray := p
    have hea : e ≠ a := fun z => by
      subst z
      obtain ⟨o', h3, h4, _⟩ := pt
      rw [show s.heap.get? e = _ from he] at h3
      cases h3
      exact absurd (Value.type.inj h4) (by decide)
    refine wpAny_pyNext_enum_itemD (Draws.tuple (prog := X.prog) (w := X.w) (A := X.A.in1) (I.ok.hd hc) it a (tupleIter_ne hit pt) its.toArray) he ⟨hit, pt⟩ ?_ hne ?_ fun y h' tk hy ho hs' hT hsz hk => ?_
    · have := rv.length
      have := (List.getElem?_eq_some_iff.mp hx).1
      simp; omega
    · simp only [List.mem_cons, List.not_mem_nil, or_false, not_or]
      exact ⟨hne, hea⟩
    have hyu : y = u := by
      have : its[i]? = some y := by simpa using hy
      rw [hu] at this; exact (Option.some.inj this).symm
    subst hyu
    obtain ⟨hit', pt'⟩ := hs'
    refine ⟨_, rfl, wpAny_letOwnedTupleGo_enum (s := { s with heap := h', toks := tk + 1 }) ho fun h'' he' sb => ?_⟩
    have hT2 : h''.get? s.heap.objs.size = some { cls := .type "tuple", data := .seq #[.int i tk, y] } := (sb.2 _ (Nat.ne_of_gt hel)).trans hT
    have new : ObjOk X.prog X.w (upd H s.heap.objs.size (.tup [.int (i : Nat), x])) h'' s.heap.objs.size (.tup [.int (i : Nat), x]) :=
      ⟨by show 2 ≤ sizeLine; decide, [.int i tk, y], .cons ⟨_, rfl⟩ (.cons ru .nil), ⟨_, hT2, rfl, _, rfl⟩⟩
    have I1 : Inv X pins σ (upd H s.heap.objs.size (.tup [.int (i : Nat), x])) { s with heap := h'', toks := tk + 1 } :=
      I.turnedNew (ch := [e, it]) (fun b ob hb q => (sb.2 b (fun z => hb (by simp [z]))).trans (hk b ob (fun z => hb (by simp [z])) (fun z => hb (by simp [z])) q)) hf (Nat.le_refl _) new
    refine ⟨.ref s.heap.objs.size, _, I1, rfl, ⟨_, x, rfl, I.hok.fresh (Nat.le_refl _), rfl, fun ys hy => by rw [I.tuple_inj hy hq]; exact hx⟩, ⟨⟨y, ?_⟩, hit'.at fun o q => (sb.2 it (Ne.symm hne)).trans q, hne⟩, fun b hb => ?_⟩
    · have e1 : ((i + 1 : Nat) : Int) = (i : Int) + 1 := by omega
      rw [e1]; exact he'
    · have hb' : b < s.heap.objs.size := by
        have e' : b = e ∨ b = it := by simpa using hb
        rcases e' with z | z
        · rw [z]; exact hel
        · rw [z]; exact hil
      rw [upd_ne (Nat.ne_of_lt hb')]
      exact (hf b hb).1
  done := by
    intro X hP hw hK hc i pins s σ H E I hf st hg
    subst hP hw hK
    obtain ⟨⟨old, he⟩, hit, hne⟩ := st
    obtain ⟨xs, hq, hx⟩ := hg
    obtain ⟨its, rv, p, hz⟩ := I.tuple hq
    obtain ⟨f0, f1, f2, f3, f4, f5⟩ := hf it (by simp)
    have hl := rv.length
    have pt : s.heap.IsTuple a its.toArray := p
    have hi : i = its.toArray.size := by simp; omega
    subst hi
    exact wpAny_pyNext_enum_endD (Draws.tuple (prog := X.prog) (w := X.w) (A := X.A.in1) (I.ok.hd hc) it a (tupleIter_ne hit pt) its.toArray) he ⟨hit, pt⟩ fun h' eb => ⟨rfl, I.turned (t' := s.toks) (fun b o hb q => eb b o hb q) f0 f1 f3 f4 f5⟩
  self := fun A i s Q E st h => let ⟨⟨_, he⟩, _⟩ := st; wpAny_pyIter_enum he h
set_option maxHeartbeats 1000000 in
theorem meets_enumerate_newB1 {v : Value} {o : Obj} {H : Heap → Prop} (B : Begins v o H) :
    Meets (Builtin.«enumerate.__new__» ⟨[.type "enumerate", v], []⟩) (fun _ R s => H s.heap ∧
      R (.ok (.ret (.ref (s.heap.push o).objs.size))) { s with heap := (s.heap.push o).push { cls := .type "enumerate", data := .fields #[.none, .bool false, .ref s.heap.objs.size, rawInt 0, .none, .none] } }) :=
  .of_wp fun prog w A R s h => by
    obtain ⟨hp, g, d, tk, os⟩ := s; obtain ⟨h1, h⟩ := h
    have hsub := sub_enumerate
    have q1 : ∀ {A' : Around} {E : Value → Shared → Prop} {Q : Value → Shared → Prop}, Q (.ref hp.objs.size) ⟨hp.push o, g, d, tk, os⟩ → wpAny (model prog w) A' (pyIter v) Q E ⟨hp, g, d, tk, os⟩ :=
      fun q => B.iter prog w _ _ ⟨hp, g, d, tk, os⟩ _ h1 q
    wp_walk using q1
    refine wpAny_stack_any fun st => wpAny_pure ?_
    split
    · rename_i c _ _ _ _ _
      cases (c == Value.type "enumerate")
      · wp_walk using q1
        exact ⟨_, rfl, h⟩
      · wp_walk using q1
        exact ⟨_, rfl, h⟩
    · wp_walk using q1
      exact ⟨_, rfl, h⟩
theorem enum_begins1 {prog : Program} {w : World} {A : Around} {E : Value → Shared → Prop} {s : Shared} {v : Value} {o : Obj} {H : Heap → Prop} {Q : Value → Shared → Prop} (B : Begins v o H) (h1 : H s.heap)
    (h : ∀ h', IsEnum h' (s.heap.objs.size + 1) s.heap.objs.size 0 .none → h'.get? s.heap.objs.size = some o → h'.objs.size = s.heap.objs.size + 2 →
      (∀ b o, s.heap.get? b = some o → h'.get? b = some o) → Q (.ref (s.heap.objs.size + 1)) { s with heap := h' }) :
    wpAny (model prog w) A (call (.type "enumerate") [v]) Q E s := by
  refine callType_new F.called_enumerate (by decide) (F.typeCall_enumerate_1 _) (F.newCall_enumerate_1 _) (fun obj => F.args_object_init_2 obj _) F.entry_enumerate_new
    (meets_enumerate_newB1 B) ⟨h1, ?_⟩
  have hz : (s.heap.push o).objs.size = s.heap.objs.size + 1 := Heap.size_push ..
  show _ ∧ _
  rw [hz]
  have he : IsEnum ((s.heap.push o).push { cls := .type "enumerate", data := .fields #[.none, .bool false, .ref s.heap.objs.size, rawInt 0, .none, .none] }) (s.heap.objs.size + 1) s.heap.objs.size 0 .none := by
    have := Heap.get?_push_size (s.heap.push o) (o := { cls := .type "enumerate", data := .fields #[.none, .bool false, .ref s.heap.objs.size, rawInt 0, .none, .none] }) rfl
    rw [hz] at this; exact this
  refine ⟨⟨_, he, rfl⟩, h _ he (Heap.get?_push_of_some _ (Heap.get?_push_size _ B.free)) (by rw [Heap.size_push, hz]) fun b o x => Heap.get?_push_of_some _ (Heap.get?_push_of_some _ x)⟩
def iEnumT (K : PySem.W.Frag) (ta : TA) : TI := fun σ H R => ta σ H fun vs H1 => ∃ a xs, vs = [.ref a] ∧ SqT K H1 a xs ∧ R (IteT K a) H1
theorem pi_enumT {X : Cx} {e : Expr} {ta : TA} {p pos tpos : Pos} {elts : List Expr} {kk : Nat} (hg : Gl X "enumerate") (hm : X.mg "enumerate" = none) (ha : PA X [e] ta) (hs : starEach [e] X.env = [(false, eval e X.env)] := by rfl) :
    PI X (.Tuple elts kk tpos) (.Call (.Name "enumerate" p) [e] [] pos) (iEnumT X.K ta) := by
  refine ⟨fun pins s σ H R I h => ?_⟩
  refine Call_ (ld_blt I hg hm boot_enumerate (PyProof.Rows.callWith_type1 (thn (ha.run pos pins s σ H _ I h) fun us s1 ⟨vs, H1, I1, r1, q1⟩ => ?_) hs rfl))
  obtain ⟨a, xs, ex, hq, q⟩ := q1
  subst ex
  cases r1 with
  | cons r rr =>
    cases rr
    cases r
    obtain ⟨its, rv, p', hz⟩ := I1.tuple hq
    refine enum_begins1 (begins_tuple a its.toArray) (show s1.heap.IsTuple a its.toArray from p') fun h' he hit hsz hk => wpAny_pyIter_enum he ?_
    have I2 : Inv X pins σ H1 { s1 with heap := h' } := I1.kept (t' := s1.toks) hk
    refine ⟨s1.heap.objs.size + 1, [s1.heap.objs.size + 1, s1.heap.objs.size], _, _, H1, rfl, I2, turn_enumT a (s1.heap.objs.size + 1) s1.heap.objs.size, ⟨⟨.none, he⟩, ⟨_, hit, rfl, rfl⟩, Nat.succ_ne_self _⟩, fun b hb => ?_, q⟩
    have e' : b = s1.heap.objs.size + 1 ∨ b = s1.heap.objs.size := by simpa using hb
    have hle : s1.heap.objs.size ≤ b := by
      rcases e' with z | z
      · rw [z]; exact Nat.le_add_right _ _
      · rw [z]; exact Nat.le_refl _
    exact I1.fpOk hle (I1.hok.fresh hle)
/-! ### a dict with tuple keys -/
section
variable {G : GC}
def ItD (G : GC) (d : Addr) (es : DE) : It := ⟨fun i H => H d = some (DO G d es) ∧ i < es.2.length, fun i H x H' => H' = H ∧ ∃ q, es.2[i]? = some q ∧ x = .ref q.2.1, fun i H => H d = some (DO G d es) ∧ i = es.2.length⟩
theorem Paired.at {α β : Type} {R : α → β → Prop} : ∀ {xs : List α} {ys : List β} {i : Nat} {x : α}, PySem.Paired R xs ys → xs[i]? = some x → ∃ y, ys[i]? = some y ∧ R x y
  | _, _, i, x, .nil, h => by simp at h
  | _, _, 0, x, .cons h1 h2, h => by simp at h; subst h; exact ⟨_, rfl, h1⟩
  | _, _, i + 1, x, .cons h1 h2, h => by simp at h ⊢; exact Paired.at h2 h
theorem turn_do {P : Program} {w : World} {K : PySem.W.Frag} {tg : Expr} {d : Addr} {es : DE} {E : Array DictEntry} {ep : Nat} (hP : G.P = P) (hw : G.w = w) (it : Addr) (hod : es.1.data = .dict E ep) :
    Turn P w K tg (ItD G d es) [it] it (fun i h => h.IsKeyIter it d i E.size ep) where
  mem := by simp
  obj := fun i h st b hb => by
    have e : b = it := by simpa using hb
    subst e
    obtain ⟨oi, e, c, dd⟩ := st
    exact ⟨oi, e, fun v z => by rw [dd] at z; cases z⟩
  keep := fun i h h' st k => st.at fun oi e => k it (by simp) oi e
  item := by
    intro X hP' hw' hK hc i pins s σ H Ex I hf st hg
    subst hP' hw' hK
    obtain ⟨hd, hi⟩ := hg
    obtain ⟨f0, f1, f2, f3, f4, f5⟩ := hf it (by simp)
    obtain ⟨⟨z, y, xs, p, E', ep', h1, h2, h3, h4, h5⟩, -, -⟩ := I.hok d _ hd
    rw [hod] at h3
    cases h3
    obtain ⟨q, hq⟩ : ∃ q, es.2[i]? = some q := ⟨es.2[i], List.getElem?_eq_getElem hi⟩
    obtain ⟨y0, hy0, r0⟩ := Paired.at p hq
    have hl : es.2.length = xs.length := Paired.length p
    have hsz : E.size = xs.length := by rw [← Array.length_toList, h4, List.length_map]
    have hi' : i < E.size := by omega
    refine wpAny_pyNext_keys_item_raw st ⟨_, h1, h2, hod⟩ hi' fun h' st' sb => ?_
    have I1 : Inv X pins σ H { s with heap := h' } := I.turned (t' := s.toks) (fun b ob hb e => (sb.2 b hb).trans e) f0 f1 f3 f4 f5
    obtain ⟨oi, e, c, dd⟩ := id st'
    have hk : E[i].key = .ref q.2.1 := by
      have e1 : E.toList[i]? = some E[i] := by simp [hi']
      rw [h4, List.getElem?_map, hy0] at e1
      have e2 := Option.some.inj e1
      rw [← e2, r0.2.1]
      rfl
    rw [hk]
    exact ⟨_, rfl, go_of (s := { s with heap := h' }) e c dd (by decide) ⟨.ref q.2.1, H, I1, rfl, ⟨rfl, q, hq, rfl⟩, st', fun b hb => (hf b hb).1⟩⟩
  done := by
    intro X hP' hw' hK hc i pins s σ H Ex I hf st hg
    subst hP' hw' hK
    obtain ⟨hd, hi⟩ := hg
    obtain ⟨f0, f1, f2, f3, f4, f5⟩ := hf it (by simp)
    obtain ⟨⟨z, y, xs, p, E', ep', h1, h2, h3, h4, h5⟩, -, -⟩ := I.hok d _ hd
    rw [hod] at h3
    cases h3
    have hl : es.2.length = xs.length := Paired.length p
    have hsz : E.size = xs.length := by rw [← Array.length_toList, h4, List.length_map]
    exact wpAny_pyNext_keys_end_raw (I.ok.hd hc) st ⟨_, h1, h2, hod⟩ (by omega) fun h' eb => ⟨rfl, I.turned (t' := s.toks) (fun b ob hb e => eb b ob hb e) f0 f1 f3 f4 f5⟩
  self := fun A i s Q E st h => wpAny_pyIter_keyiter st h
def iDict (G : GC) (td : TE) : TI := fun σ H R => td σ H fun x H1 => ∃ d es, x = .ref d ∧ H1 d = some (DO G d es) ∧ R (ItD G d es) H1
theorem pi_dict {X : Cx} {tg e : Expr} {td : TE} (ft : Fit G X) (he : PE X e td) : PI X tg e (iDict G td) := by
  refine ⟨fun pins s σ H R I h => ?_⟩
  refine thn (he.run pins s σ H _ I h) fun u s1 ⟨x, H1, I1, rx, d, es, ex, hd, q⟩ => ?_
  subst ex
  obtain rfl : u = Value.ref d := rx
  obtain ⟨⟨z, y, xs, p, E', ep', h1, h2, h3, h4, h5⟩, -, -⟩ := I1.hok d _ hd
  exact wpAny_pyIter_dict_raw y ⟨_, h1, h2, h3⟩ (pi_one (tk := s1.toks) I1 _ (turn_do ft.P.symm ft.w.symm _ h3) ⟨_, Heap.get?_push_size _ rfl, rfl, rfl⟩ q)
end
end GD
/-! Gk -/
set_option maxHeartbeats 4000000
/-! Gk: zip(list, tuple). -/
namespace GD
open PySem PySem.Spec PyProof.Rows L2
open Sem (wp)
def ItzLT (K : PySem.W.Frag) (a b : Addr) : It :=
  ⟨fun i H => ∃ (xs ys : List V) (x y : V), SqL K H a xs ∧ SqT K H b ys ∧ xs[i]? = some x ∧ ys[i]? = some y,
    fun i H v H' => ∃ T x y, v = .ref T ∧ H T = none ∧ H' = upd H T (.tup [x, y]) ∧ (∀ xs, SqL K H a xs → xs[i]? = some x) ∧ ∀ ys, SqT K H b ys → ys[i]? = some y,
    fun i H => ∃ xs ys : List V, SqL K H a xs ∧ SqT K H b ys ∧ i = xs.length ∧ i = ys.length⟩
theorem turn_zipLT {P : Program} {w : World} {K : PySem.W.Frag} {elts : List Expr} {kk : Nat} {tpos : Pos} {a b z TI TO i1 i2 : Addr} (D : ZipSep2 z TI TO i1 i2 [i1, a] [i2, b]) (ha : a ≠ i1) (hb : b ≠ i2) :
    Turn P w K (.Tuple elts kk tpos) (ItzLT K a b) [z, TI, TO, i1, i2] z (fun i h => IsZip h z TI TO .none ∧ IsTupOf2 h TI (.ref i1) (.ref i2) ∧ (∃ x y, IsTupOf2 h TO x y) ∧ h.IsListIter i1 a i ∧ h.IsTupleIter i2 b i) where
  mem := by simp
  obj := fun i h st c hc => by
    obtain ⟨hz, hTI, ⟨x, y, hTO⟩, ⟨o1, e1, _, d1⟩, ⟨o2, e2, _, d2⟩⟩ := st
    have e' : c = z ∨ c = TI ∨ c = TO ∨ c = i1 ∨ c = i2 := by simpa using hc
    rcases e' with q | q | q | q | q
    · rw [q]; exact ⟨_, hz, fun v q => nomatch q⟩
    · rw [q]; exact ⟨_, hTI, fun v q => nomatch q⟩
    · rw [q]; exact ⟨_, hTO, fun v q => nomatch q⟩
    · rw [q]; exact ⟨o1, e1, fun v q => by rw [d1] at q; cases q⟩
    · rw [q]; exact ⟨o2, e2, fun v q => by rw [d2] at q; cases q⟩
  keep := fun i h h' st k => by
    obtain ⟨hz, hTI, ⟨x, y, hTO⟩, h1, h2⟩ := st
    exact ⟨k z (by simp) _ hz, k TI (by simp) _ hTI, ⟨x, y, k TO (by simp) _ hTO⟩, h1.at fun o q => k i1 (by simp) o q, h2.at fun o q => k i2 (by simp) o q⟩
  item := by
    intro X hP hw hK hc i pins s σ H E I hf st hg
    subst hP hw hK
    obtain ⟨hz, hTI, ⟨x0, y0, hTO⟩, h1, h2⟩ := st
    obtain ⟨xs, ys, x, y, hqx, hqy, hx, hy⟩ := hg
    obtain ⟨its, rv, p, _⟩ := I.list hqx
    obtain ⟨its2, rv2, p2, _⟩ := I.tuple hqy
    obtain ⟨u, hu, ru⟩ := rv.get hx
    obtain ⟨u2, hu2, ru2⟩ := rv2.get hy
    have hzl : z < s.heap.objs.size := Heap.lt_size hz
    have l1 := rv.length
    have l2 := rv2.length
    have j1 := (List.getElem?_eq_some_iff.mp hx).1
    have j2 := (List.getElem?_eq_some_iff.mp hy).1
    refine wpAny_pyNext_zipD2_item (n1 := its.toArray.size) (n2 := its2.toArray.size) D (Draws.list (prog := X.prog) (w := X.w) (A := X.A.in1) (I.ok.hd hc) i1 a ha its.toArray) (Draws.tuple (prog := X.prog) (w := X.w) (A := X.A.in1) (I.ok.hd hc) i2 b hb its2.toArray) hz hTI hTO ⟨h1, p.isList⟩ ⟨h2, p2⟩
      (by simp; omega) (by simp; omega) fun y1 y2 h' tk e1 e2 z' TO' st1 st2 hT hsz hk => ?_
    have e1' : y1 = u := by
      have : its[i]? = some y1 := by simpa using e1
      rw [hu] at this; exact (Option.some.inj this).symm
    have e2' : y2 = u2 := by
      have : its2[i]? = some y2 := by simpa using e2
      rw [hu2] at this; exact (Option.some.inj this).symm
    subst e1' e2'
    refine ⟨_, rfl, wpAny_letOwnedTupleGo_zip (s := { s with heap := h', toks := tk }) z' fun h'' z'' sb => ?_⟩
    have hT2 : h''.get? s.heap.objs.size = some { cls := .type "tuple", data := .seq #[y1, y2] } := (sb.2 _ (Nat.ne_of_gt hzl)).trans hT
    have new : ObjOk X.prog X.w (upd H s.heap.objs.size (.tup [x, y])) h'' s.heap.objs.size (.tup [x, y]) :=
      ⟨by show 2 ≤ sizeLine; decide, [y1, y2], .cons ru (.cons ru2 .nil), ⟨_, hT2, rfl, _, rfl⟩⟩
    have I1 : Inv X pins σ (upd H s.heap.objs.size (.tup [x, y])) { s with heap := h'', toks := tk } :=
      I.turnedNew (ch := [z, TI, TO, i1, i2]) (fun c o hb q => (sb.2 c (fun q' => hb (by simp [q']))).trans (hk c o (fun q' => hb (by simp [q'])) (fun q' => hb (by simp [q'])) (fun q' => hb (by simp [q'])) (fun q' => hb (by simp [q'])) q)) hf (Nat.le_refl _) new
    refine ⟨.ref s.heap.objs.size, _, I1, rfl, ⟨_, x, y, rfl, I.hok.fresh (Nat.le_refl _), rfl, fun l hl => by rw [I.list_inj hl hqx]; exact hx, fun l hl => by rw [I.tuple_inj hl hqy]; exact hy⟩, ⟨z'', ?_, ⟨y1, y2, ?_⟩, ?_, ?_⟩, fun c hcm => ?_⟩
    · exact (sb.2 _ D.TIz).trans (hk _ _ D.TIz D.TITO D.TIi1 D.TIi2 hTI)
    · exact (sb.2 _ D.TOz).trans TO'
    · exact st1.1.at fun o q => (sb.2 _ D.zi1.symm).trans q
    · exact st2.1.at fun o q => (sb.2 _ D.zi2.symm).trans q
    · have hlt : c < s.heap.objs.size := by
        have e' : c = z ∨ c = TI ∨ c = TO ∨ c = i1 ∨ c = i2 := by simpa using hcm
        rcases e' with q | q | q | q | q
        · rw [q]; exact hzl
        · rw [q]; exact Heap.lt_size hTI
        · rw [q]; exact Heap.lt_size hTO
        · rw [q]; obtain ⟨_, e1, _⟩ := h1; exact Heap.lt_size e1
        · rw [q]; obtain ⟨_, e2, _⟩ := h2; exact Heap.lt_size e2
      rw [upd_ne (Nat.ne_of_lt hlt)]
      exact (hf c hcm).1
  done := by
    intro X hP hw hK hc i pins s σ H E I hf st hg
    subst hP hw hK
    obtain ⟨hz, hTI, ⟨x0, y0, hTO⟩, h1, h2⟩ := st
    obtain ⟨xs, ys, hqx, hqy, hend, hend2⟩ := hg
    obtain ⟨its, rv, p, _⟩ := I.list hqx
    obtain ⟨its2, rv2, p2, _⟩ := I.tuple hqy
    have l1 := rv.length
    have l2 := rv2.length
    exact wpAny_pyNext_zipD2_end (n1 := its.toArray.size) (n2 := its2.toArray.size) (i := i) D (Draws.list (prog := X.prog) (w := X.w) (A := X.A.in1) (I.ok.hd hc) i1 a ha its.toArray) (Draws.tuple (prog := X.prog) (w := X.w) (A := X.A.in1) (I.ok.hd hc) i2 b hb its2.toArray) hz hTI hTO ⟨h1, p.isList⟩ ⟨h2, p2⟩
      (by simp; omega) (by simp; omega) (.inl (by simp; omega)) fun h' tk hk => ⟨rfl, I.turnedL (ch := [z, TI, TO, i1, i2]) (fun c o hb q =>
      hk c o (fun q' => hb (by simp [q'])) (fun q' => hb (by simp [q'])) (fun q' => hb (by simp [q'])) (fun q' => hb (by simp [q'])) q) hf⟩
  self := fun A i s Q E st h => wpAny_pyIter_zip st.1 h
theorem sep5 {n a b : Nat} (la : a < n) (lb : b < n) : ZipSep2 (n + 4) (n + 2) (n + 3) n (n + 1) [n, a] [n + 1, b] := by
  have e : ∀ {x y : Nat}, (x < y ∨ y < x) → @Ne Addr x y := fun h => h.elim Nat.ne_of_lt Nat.ne_of_gt
  have f : ∀ {x y z : Nat}, (x < y ∨ y < x) → (x < z ∨ z < x) → ¬ @List.Mem Addr x [y, z] := fun h h2 z => by
    rcases List.mem_cons.mp (show _ ∈ _ from z) with q | q
    · exact e h q
    · exact e h2 (List.mem_singleton.mp q)
  exact ⟨e (by omega), e (by omega), e (by omega), e (by omega), List.mem_cons_self, f (by omega) (by omega), f (by omega) (by omega), e (by omega), List.mem_cons_self, f (by omega) (by omega), f (by omega) (by omega), f (by omega) (by omega), f (by omega) (by omega)⟩
def iZipLT (K : PySem.W.Frag) (ta : TA) : TI := fun σ H R => ta σ H fun vs H1 => ∃ a b xs ys, vs = [.ref a, .ref b] ∧ SqL K H1 a xs ∧ SqT K H1 b ys ∧ R (ItzLT K a b) H1
theorem pi_zipLT {X : Cx} {e e2 : Expr} {ta : TA} {p pos tpos : Pos} {elts : List Expr} {kk : Nat} (hg : Gl X "zip") (hm : X.mg "zip" = none) (ha : PA X [e, e2] ta)
    (hs : starEach [e, e2] X.env = (false, eval e X.env) :: starEach [e2] X.env := by rfl) (hpl : (backTo pos (starEach [e2] X.env)).any (·.1) = false := by rfl) :
    PI X (.Tuple elts kk tpos) (.Call (.Name "zip" p) [e, e2] [] pos) (iZipLT X.K ta) := by
  refine ⟨fun pins s σ H R I h => ?_⟩
  refine Call_ (ld_blt I hg hm PyProof.Rows.boot_zip (PyProof.Rows.callWith_type1 (thn (ha.run pos pins s σ H _ I h) fun us s1 ⟨vs, H1, I1, r1, q1⟩ => ?_) hs hpl))
  obtain ⟨a, b, xs, ys, ex, hqx, hqy, q⟩ := q1
  subst ex
  cases r1 with
  | cons r rr =>
    cases rr with
    | cons r' rr =>
      cases rr
      cases r
      cases r'
      obtain ⟨its, rv, p1, _⟩ := I1.list hqx
      obtain ⟨its2, rv2, p2, _⟩ := I1.tuple hqy
      have fresh5 : ∀ c, c ∈ [s1.heap.objs.size + 4, s1.heap.objs.size + 2, s1.heap.objs.size + 3, s1.heap.objs.size, s1.heap.objs.size + 1] → FpOk X pins H1 c := fun c hcm => by
        have e' : c = s1.heap.objs.size + 4 ∨ c = s1.heap.objs.size + 2 ∨ c = s1.heap.objs.size + 3 ∨ c = s1.heap.objs.size ∨ c = s1.heap.objs.size + 1 := by simpa using hcm
        have hle : s1.heap.objs.size ≤ c := by
          rcases e' with z | z | z | z | z
          · rw [z]; exact Nat.le_add_right _ _
          · rw [z]; exact Nat.le_add_right _ _
          · rw [z]; exact Nat.le_add_right _ _
          · rw [z]; exact Nat.le_refl _
          · rw [z]; exact Nat.le_add_right _ _
        exact I1.fpOk hle (I1.hok.fresh hle)
      have la : a < s1.heap.objs.size := p1.lt
      have lb : b < s1.heap.objs.size := by obtain ⟨o2, ho2, _⟩ := id p2; exact Heap.lt_size ho2
      refine zip_begins2 (begins_list a its.toArray) (begins_tuple b its2.toArray) p1.isList p2 fun h' hz hTI hTO h1 h2 hsz hk => wpAny_pyIter_zip hz ?_
      have I2 : Inv X pins σ H1 { s1 with heap := h' } := I1.kept (t' := s1.toks) hk
      exact ⟨s1.heap.objs.size + 4, [s1.heap.objs.size + 4, s1.heap.objs.size + 2, s1.heap.objs.size + 3, s1.heap.objs.size, s1.heap.objs.size + 1], _, _, H1, rfl, I2, turn_zipLT (sep5 la lb) (Nat.ne_of_lt la) (Nat.ne_of_lt (Nat.lt_succ_of_lt lb)), ⟨hz, hTI, ⟨_, _, hTO⟩, ⟨_, h1, rfl, rfl⟩, ⟨_, h2, rfl, rfl⟩⟩, fresh5, q⟩
end GD
/-! Gl -/
set_option maxHeartbeats 4000000
/-! Gl: what a loop walks, for, while. -/
namespace GD
open PySem L2
section
variable {G : GC} {Y : AS} {X : Cx} {e a b c : Expr} {es : List Expr} {pos : Pos}
def PinL1 (G : GC) (N : AS) (H : Hp) : Sum (V × D) (Addr × HO) → Prop
  | .inl x => Top G N H x.1 x.2
  | .inr x => H x.1 = some x.2 ∧ x.1 ≠ G.ro ∧ ∀ ps, x.2 ≠ .tbl ps
def PinsL (G : GC) (N : AS) (H : Hp) (p : Pin) : Prop := ∀ q ∈ p, PinL1 G N H q
theorem Pins.lean {N : AS} {H : Hp} {p : Pin} (h : Pins G N H p) : PinsL G N H p := fun q hq => by
  have := h q hq
  cases q with
  | inl x => exact Rep.top this
  | inr x => exact ⟨this.2.2.1, this.2.1, this.2.2.2⟩
theorem PinsL.fix {N N' : AS} {H H' : Hp} {p : Pin} (e : Ext G H H') (hN : ∀ a, N a → N' a) (h : PinsL G N H p) : PinsL G N' H' p := fun q hq => by
  have := h q hq
  cases q with
  | inl x => exact Top.fix e hN this
  | inr x => exact ⟨e.keep _ _ this.1 this.2.1 this.2.2, this.2⟩
/-- an iterator that gives ds while the pins stand -/
structure ItOk (G : GC) (pn : Pin) (J : It) (ds : List D) : Prop where
  walk : Walk J ds.length (fun H => ∃ N, PinsL G N H pn) (fun i H x H' => Grow G H H' ∧ ∀ N, PinsL G N H pn → ∃ d, ds[i]? = some d ∧ Rep G (Nf N H) H' x d)
theorem Rep.nf {N : AS} {H H' : Hp} {v : V} {d : D} (h : Rep G N H' v d) : Rep G (Nf N H) H' v d := Rep.mono nf_of h
theorem it_lst {p : Addr} {l : List D} : ItOk G [.inl (.ref p, .lst l)] (Itl G.K p) l := ⟨by
  have get : ∀ {N H}, PinsL G N H [.inl (.ref p, .lst l)] → ∃ vs, H p = some (.lst vs) ∧ RepL G N H vs l := fun {N H} h => by
    obtain ⟨b, vs, e1, ro, e2, rl⟩ := h _ List.mem_cons_self
    cases e1
    exact ⟨vs, e2, rl⟩
  refine ⟨fun i H hi h => ?_, fun H h => ?_, fun i H x H' hi h y => ?_⟩
  · obtain ⟨N, h⟩ := h
    obtain ⟨vs, e2, rl⟩ := get h
    obtain ⟨v, hv, _⟩ := rl.getD (List.getElem?_eq_getElem hi)
    exact ⟨vs, v, SqL.of e2, hv⟩
  · obtain ⟨N, h⟩ := h
    obtain ⟨vs, e2, rl⟩ := get h
    exact ⟨vs, SqL.of e2, Nat.le_of_eq rl.len⟩
  · obtain ⟨rfl, y⟩ := y
    refine ⟨Grow.refl G _, fun N h => ?_⟩
    obtain ⟨vs, e2, rl⟩ := get h
    obtain ⟨d, hd, r⟩ := rl.get (y vs (SqL.of e2))
    exact ⟨d, hd, r.nf⟩⟩
theorem it_tup {p : Addr} {l : List D} : ItOk G [.inl (.ref p, .tup l)] (Itt G.K p) l := ⟨by
  have get : ∀ {N H}, PinsL G N H [.inl (.ref p, .tup l)] → ∃ vs, H p = some (.tup vs) ∧ RepL G N H vs l := fun {N H} h => by
    obtain ⟨b, vs, e1, e2, rl⟩ := Top.tup (h _ List.mem_cons_self)
    cases e1
    exact ⟨vs, e2, rl⟩
  refine ⟨fun i H hi h => ?_, fun H h => ?_, fun i H x H' hi h y => ?_⟩
  · obtain ⟨N, h⟩ := h
    obtain ⟨vs, e2, rl⟩ := get h
    obtain ⟨v, hv, _⟩ := rl.getD (List.getElem?_eq_getElem hi)
    exact ⟨vs, v, SqT.of e2, hv⟩
  · obtain ⟨N, h⟩ := h
    obtain ⟨vs, e2, rl⟩ := get h
    exact ⟨vs, SqT.of e2, Nat.le_of_eq rl.len⟩
  · obtain ⟨rfl, y⟩ := y
    refine ⟨Grow.refl G _, fun N h => ?_⟩
    obtain ⟨vs, e2, rl⟩ := get h
    obtain ⟨d, hd, r⟩ := rl.get (y vs (SqT.of e2))
    exact ⟨d, hd, r.nf⟩⟩
def rngD (lo : Int) (n : Nat) : List D := (List.range n).map fun i => .int (lo + (i : Nat))
def rngDown (lo : Int) (n : Nat) : List D := (List.range n).map fun i => .int (lo + (i : Nat) * (-1))
theorem it_rng {lo : Int} {n : Nat} : ItOk G [] (Itr lo n) (rngD lo n) := ⟨by
  have hl : (rngD lo n).length = n := by simp [rngD]
  refine ⟨fun i H hi h => by rw [hl] at hi; exact hi, fun H h => by rw [hl]; exact Nat.le_refl _, fun i H x H' hi h y => ?_⟩
  obtain ⟨rfl, rfl⟩ := y
  rw [hl] at hi
  exact ⟨Grow.refl G _, fun N h => ⟨.int (lo + i), by simp [rngD, hi], by simp only [Rep]⟩⟩⟩
theorem it_rngDown {lo : Int} {n : Nat} : ItOk G [] (Itc lo (-1) n) (rngDown lo n) := ⟨by
  have hl : (rngDown lo n).length = n := by simp [rngDown]
  refine ⟨fun i H hi h => by rw [hl] at hi; exact hi, fun H h => by rw [hl]; exact Nat.le_refl _, fun i H x H' hi h y => ?_⟩
  obtain ⟨rfl, rfl⟩ := y
  rw [hl] at hi
  exact ⟨Grow.refl G _, fun N h => ⟨.int (lo + i * (-1)), by simp [rngDown, hi], by simp only [Rep]⟩⟩⟩
def enumD (l : List D) : List D := l.zipIdx.map fun p => .tup [.int (p.2 : Nat), p.1]
theorem rep_pair {N : AS} {H : Hp} {T : Addr} {x y : V} {d e : D} (hT : H T = none) (h1 : Rep G N H x d) (h2 : Rep G N H y e) : Rep G (Nf N H) (upd H T (.tup [x, y])) (.ref T) (.tup [d, e]) := by
  have g := (Grow.new (G := G) (o := .tup [x, y]) hT).ext
  simp only [Rep]
  exact ⟨T, [x, y], rfl, upd_same, RepL.cons (h1.ext g).nf (RepL.cons (h2.ext g).nf RepL.nil)⟩
theorem it_enumT {p : Addr} {l : List D} : ItOk G [.inl (.ref p, .tup l)] (IteT G.K p) (enumD l) := ⟨by
  have get : ∀ {N H}, PinsL G N H [.inl (.ref p, .tup l)] → ∃ vs, H p = some (.tup vs) ∧ RepL G N H vs l := fun {N H} h => by
    obtain ⟨b, vs, e1, e2, rl⟩ := Top.tup (h _ List.mem_cons_self)
    cases e1
    exact ⟨vs, e2, rl⟩
  have hl : (enumD l).length = l.length := by simp [enumD]
  rw [hl]
  refine ⟨fun i H hi h => ?_, fun H h => ?_, fun i H x H' hi h y => ?_⟩
  · obtain ⟨N, h⟩ := h
    obtain ⟨vs, e2, rl⟩ := get h
    obtain ⟨v, hv, _⟩ := rl.getD (List.getElem?_eq_getElem hi)
    exact ⟨vs, v, SqT.of e2, hv⟩
  · obtain ⟨N, h⟩ := h
    obtain ⟨vs, e2, rl⟩ := get h
    exact ⟨vs, SqT.of e2, rl.len⟩
  · obtain ⟨T, z, rfl, hT, rfl, y⟩ := y
    refine ⟨Grow.new hT, fun N h => ?_⟩
    obtain ⟨vs, e2, rl⟩ := get h
    obtain ⟨d, hd, r⟩ := rl.get (y vs (SqT.of e2))
    exact ⟨.tup [.int (i : Nat), d], by simp [enumD, hd], rep_pair hT (by simp only [Rep]) r⟩⟩
theorem it_enumL {p : Addr} {l : List D} : ItOk G [.inl (.ref p, .lst l)] (Ite G.K p) (enumD l) := ⟨by
  have get : ∀ {N H}, PinsL G N H [.inl (.ref p, .lst l)] → ∃ vs, H p = some (.lst vs) ∧ RepL G N H vs l := fun {N H} h => by
    obtain ⟨b, vs, e1, ro, e2, rl⟩ := h _ List.mem_cons_self
    cases e1
    exact ⟨vs, e2, rl⟩
  have hl : (enumD l).length = l.length := by simp [enumD]
  rw [hl]
  refine ⟨fun i H hi h => ?_, fun H h => ?_, fun i H x H' hi h y => ?_⟩
  · obtain ⟨N, h⟩ := h
    obtain ⟨vs, e2, rl⟩ := get h
    obtain ⟨v, hv, _⟩ := rl.getD (List.getElem?_eq_getElem hi)
    exact ⟨vs, v, SqL.of e2, hv⟩
  · obtain ⟨N, h⟩ := h
    obtain ⟨vs, e2, rl⟩ := get h
    exact ⟨vs, SqL.of e2, Nat.le_of_eq rl.len⟩
  · obtain ⟨T, z, rfl, hT, rfl, y⟩ := y
    refine ⟨Grow.new hT, fun N h => ?_⟩
    obtain ⟨vs, e2, rl⟩ := get h
    obtain ⟨d, hd, r⟩ := rl.get (y vs (SqL.of e2))
    exact ⟨.tup [.int (i : Nat), d], by simp [enumD, hd], rep_pair hT (by simp only [Rep]) r⟩⟩
def zipD (l m : List D) : List D := (l.zip m).map fun p => .tup [p.1, p.2]
theorem it_zip {p q : Addr} {l m : List D} (hlm : l.length = m.length) : ItOk G [.inl (.ref p, .lst l), .inl (.ref q, .tup m)] (ItzLT G.K p q) (zipD l m) := ⟨by
  have get : ∀ {N H}, PinsL G N H [.inl (.ref p, .lst l), .inl (.ref q, .tup m)] → ∃ vs us, H p = some (.lst vs) ∧ RepL G N H vs l ∧ H q = some (.tup us) ∧ RepL G N H us m := fun {N H} h => by
    obtain ⟨b, vs, e1, ro, e2, rl⟩ := h _ List.mem_cons_self
    cases e1
    obtain ⟨b, us, e1, e3, rm⟩ := Top.tup (h _ (List.mem_cons_of_mem _ List.mem_cons_self))
    cases e1
    exact ⟨vs, us, e2, rl, e3, rm⟩
  have hl : (zipD l m).length = l.length := by simp [zipD]; omega
  rw [hl]
  refine ⟨fun i H hi h => ?_, fun H h => ?_, fun i H x H' hi h y => ?_⟩
  · obtain ⟨N, h⟩ := h
    obtain ⟨vs, us, e2, rl, e3, rm⟩ := get h
    obtain ⟨v, hv, _⟩ := rl.getD (List.getElem?_eq_getElem hi)
    obtain ⟨u, hu, _⟩ := rm.getD (List.getElem?_eq_getElem (hlm ▸ hi))
    exact ⟨vs, us, v, u, SqL.of e2, SqT.of e3, hv, hu⟩
  · obtain ⟨N, h⟩ := h
    obtain ⟨vs, us, e2, rl, e3, rm⟩ := get h
    exact ⟨vs, us, SqL.of e2, SqT.of e3, rl.len.symm, by rw [rm.len, hlm]⟩
  · obtain ⟨T, z, z2, rfl, hT, rfl, y, y2⟩ := y
    refine ⟨Grow.new hT, fun N h => ?_⟩
    obtain ⟨vs, us, e2, rl, e3, rm⟩ := get h
    obtain ⟨d, hd, r⟩ := rl.get (y vs (SqL.of e2))
    obtain ⟨d2, hd2, r2⟩ := rm.get (y2 us (SqT.of e3))
    exact ⟨.tup [d, d2], by simp [zipD, List.zip, List.getElem?_zipWith, hd, hd2], rep_pair hT r r2⟩⟩
def keyPins (p : Addr) (G : GC) (es : DE) (l : List (D × D)) : Pin := .inr (p, DO G p es) :: List.zipWith (fun e q => .inl (V.ref e.2.1, q.1)) es.2 l
theorem RepT.pins {N : AS} {H : Hp} : ∀ {l : List (D × D)} {es : List (NestedKey × Addr × V)}, RepT G N H es l → ∀ q ∈ List.zipWith (fun (e : NestedKey × Addr × V) (q : D × D) => (Sum.inl (V.ref e.2.1, q.1) : Sum (V × D) (Addr × HO))) es l, Pin1 G N H q
  | [], es, h => by simp only [RepT] at h; subst h; intro q hq; simp at hq
  | (k, d) :: r, es, h => by
    simp only [RepT] at h
    obtain ⟨p, v, t, rfl, _, h1, _, h2⟩ := h
    intro q hq
    rw [List.zipWith_cons_cons] at hq
    rcases List.mem_cons.mp hq with rfl | hq
    · exact h1
    · exact RepT.pins h2 q hq
theorem top_key {N : AS} {H : Hp} {v : V} {k : D} (c : keyOk k = true) (t : Top G N H v k) : Rep G N H v k := by
  cases k <;> simp [keyOk] at c
  exact t
theorem RepT.keyOk {N : AS} {H : Hp} : ∀ {l : List (D × D)} {es : List (NestedKey × Addr × V)}, RepT G N H es l → ∀ q ∈ l, GD.keyOk q.1 = true
  | [], es, h => by intro q hq; cases hq
  | (k, d) :: r, es, h => by
    simp only [RepT] at h
    obtain ⟨p, v, t, rfl, c, h1, _, h2⟩ := h
    intro q hq
    rcases List.mem_cons.mp hq with rfl | hq
    · exact c
    · exact RepT.keyOk h2 q hq
theorem it_dict {p : Addr} {es : DE} {l : List (D × D)} (hl : es.2.length = l.length) (hk : ∀ q ∈ l, keyOk q.1 = true) : ItOk G (keyPins p G es l) (ItD G p es) (l.map (·.1)) := ⟨by
  have hl2 : (l.map (·.1)).length = es.2.length := by simp [hl]
  rw [hl2]
  refine ⟨fun i H hi h => ?_, fun H h => ?_, fun i H x H' hi h y => ?_⟩
  · obtain ⟨N, h⟩ := h
    exact ⟨(h _ List.mem_cons_self).1, hi⟩
  · obtain ⟨N, h⟩ := h
    exact ⟨(h _ List.mem_cons_self).1, rfl⟩
  · obtain ⟨rfl, q, hq, rfl⟩ := y
    refine ⟨Grow.refl G _, fun N h => ?_⟩
    have hi2 : i < l.length := by omega
    refine ⟨l[i].1, by simp [hi2], ?_⟩
    have hm : (Sum.inl (V.ref q.2.1, l[i].1) : Sum (V × D) (Addr × HO)) ∈ keyPins p G es l := by
      refine List.mem_cons_of_mem _ ?_
      refine List.mem_iff_getElem?.mpr ⟨i, ?_⟩
      rw [List.getElem?_zipWith, hq, List.getElem?_eq_getElem hi2]
    have t := h _ hm
    exact (top_key (hk _ (List.getElem_mem hi2)) t).nf⟩
/-! ### readings -/
abbrev MI := MS → Option (List D × Bool × Rw)
def rdI (G : GC) (Y : AS) (mi : MI) : TI := fun sg H Q => ∃ N s ds b r, At G Y N sg H s ∧ mi s = some (ds, b, r) ∧
  ∀ pn J H', Ext G H H' → RowAt G H' r → PinsL G (Nf N H) H' pn → (b = true → Pins G (Nf N H) H' pn) → ItOk G pn J ds → Q J H'
abbrev SI (G : GC) (Y : AS) (X : Cx) (tg e : Expr) (mi : MI) : Prop := PI X tg e (rdI G Y mi)
theorem nobor_rep {N : AS} {H H' : Hp} {v : V} {e : EV} (o : EvOk G N H H' v e) (hb : noBorK e = true) : Rep G (Nf N H) H' v e.d := o.rep (by simpa [noBorK] using hb)
def mItL (m : ME) : MI := fun s => (m s).bind fun p => match p.1.d with
  | .lst l => some (l, noBorK p.1, p.2)
  | _ => none
theorem si_lst {tg : Expr} {m : ME} (ft : Fit G X) (h : SE G Y X e m) : SI G Y X tg e (mItL m) := by
  refine ⟨fun pins s sg H R I q => (pi_list (tg := tg) h).run pins s sg H R I ?_⟩
  obtain ⟨N, st, ds, b, r, at_, q, k⟩ := q
  unfold mItL at q
  simp only [Option.bind_eq_some_iff] at q
  obtain ⟨⟨⟨d, kd⟩, r1⟩, h1, h2⟩ := q
  cases d <;> simp only at h2 <;> try cases h2
  refine ⟨N, st, _, _, at_, h1, fun v H1 x w o => ?_⟩
  have t := o.top
  obtain ⟨p, vs, rfl, ro, e2, rl⟩ := id t
  refine ⟨p, rfl, ⟨vs, SqL.of e2⟩, ?_⟩
  rw [ft.K]
  refine k [.inl (.ref p, .lst ds)] _ H1 x w ?_ ?_ it_lst
  · intro q hq; rw [List.mem_singleton.mp hq]; exact t
  · intro hb q hq; rw [List.mem_singleton.mp hq]; exact nobor_rep o hb
def mItT (m : ME) : MI := fun s => (m s).bind fun p => match p.1.d with
  | .tup l => some (l, noBorK p.1, p.2)
  | _ => none
theorem si_tup {tg : Expr} {m : ME} (ft : Fit G X) (h : SE G Y X e m) : SI G Y X tg e (mItT m) := by
  refine ⟨fun pins s sg H R I q => (pi_tup (tg := tg) h).run pins s sg H R I ?_⟩
  obtain ⟨N, st, ds, b, r, at_, q, k⟩ := q
  unfold mItT at q
  simp only [Option.bind_eq_some_iff] at q
  obtain ⟨⟨⟨d, kd⟩, r1⟩, h1, h2⟩ := q
  cases d <;> simp only at h2 <;> try cases h2
  refine ⟨N, st, _, _, at_, h1, fun v H1 x w o => ?_⟩
  have t := o.top
  obtain ⟨p, vs, rfl, e2, rl⟩ := Top.tup t
  refine ⟨p, rfl, ⟨vs, SqT.of e2⟩, ?_⟩
  rw [ft.K]
  refine k [.inl (.ref p, .tup ds)] _ H1 x w ?_ ?_ it_tup
  · intro q hq; rw [List.mem_singleton.mp hq]; exact t
  · intro hb q hq; rw [List.mem_singleton.mp hq]; exact nobor_rep o hb
def mItD (m : ME) : MI := fun s => (m s).bind fun p => match p.1.d with
  | .dT l => some (l.map (·.1), noBorK p.1, p.2)
  | _ => none
theorem si_dict {tg : Expr} {m : ME} (ft : Fit G X) (h : SE G Y X e m) : SI G Y X tg e (mItD m) := by
  refine ⟨fun pins s sg H R I q => (pi_dict (tg := tg) ft h).run pins s sg H R I ?_⟩
  obtain ⟨N, st, ds, b, r, at_, q, k⟩ := q
  unfold mItD at q
  simp only [Option.bind_eq_some_iff] at q
  obtain ⟨⟨⟨d, kd⟩, r1⟩, h1, h2⟩ := q
  cases d <;> simp only at h2 <;> try cases h2
  rename_i l
  refine ⟨N, st, _, _, at_, h1, fun v H1 x w o => ?_⟩
  have t := o.top
  obtain ⟨p, es, rfl, ro, e2, rl⟩ := id t
  refine ⟨p, es, rfl, e2, ?_⟩
  have pins : Pins G (Nf N H) H1 (List.zipWith (fun (e : NestedKey × Addr × V) (q : D × D) => (Sum.inl (V.ref e.2.1, q.1) : Sum (V × D) (Addr × HO))) es.2 l) := rl.pins
  refine k (keyPins p G es l) _ H1 x w ?_ ?_ (it_dict rl.len rl.keyOk)
  · intro q hq
    rcases List.mem_cons.mp hq with rfl | hq
    · exact ⟨e2, ro, fun ps z => by unfold DO at z; cases z⟩
    · exact Pins.lean pins q hq
  · intro hb q hq
    rcases List.mem_cons.mp hq with rfl | hq
    · have := nobor_rep o hb
      simp only [Rep] at this
      obtain ⟨p', es', e1, n, _⟩ := this
      cases e1
      exact ⟨n, ro, e2, fun ps z => by unfold DO at z; cases z⟩
    · exact pins q hq
/-! range, enumerate, zip -/
def smallI (j : Int) : Bool := decide (-(2 ^ 62) ≤ j ∧ j < 2 ^ 62)
def mRng1 (m : MA) : MI := fun s => (m s).bind fun p => match p.1 with
  | [⟨.int j, .dat⟩] => if smallI j = true then some (rngD 0 j.toNat, true, p.2) else none
  | _ => none
theorem evs_reps {N : AS} {H H' : Hp} {vs : List V} {l : List D} (o : EvsOk G N H H' vs (l.map datE)) : RepL G (Nf N H) H' vs l := by
  have := o.reps (es := l.map datE) (by induction l <;> simp_all [noBor, datE])
  simpa [List.map_map, Function.comp_def, datE] using this
theorem si_rng1 {tg : Expr} {m : MA} {p pos : Pos} (hg : Gl X "range") (hm : X.mg "range" = none) (ha : SA G Y X [a] m) (hs : starEach [a] X.env = [(false, eval a X.env)] := by rfl) : SI G Y X tg (.Call (.Name "range" p) [a] [] pos) (mRng1 m) := by
  refine ⟨fun pins s sg H R I q => (pi_range1 (tg := tg) hg hm ha hs).run pins s sg H R I ?_⟩
  obtain ⟨N, st, ds, b, r, at_, q, k⟩ := q
  unfold mRng1 at q
  simp only [Option.bind_eq_some_iff] at q
  obtain ⟨⟨es, r1⟩, h1, h2⟩ := q
  simp only at h2
  split at h2
  · rename_i j
    split at h2
    · rename_i hj
      cases h2
      have hj := of_decide_eq_true hj
      refine ⟨N, st, _, _, at_, h1, fun vs H1 x w o => ?_⟩
      have rl := evs_reps (l := [.int j]) o
      simp only [RepL, Rep] at rl
      obtain ⟨v, t, rfl, rfl, rfl⟩ := rl
      exact ⟨j, rfl, hj.1, hj.2, k [] _ H1 x w (fun q hq => by cases hq) (fun _ q hq => by cases hq) it_rng⟩
    · cases h2
  · cases h2
def mRng2 (m : MA) : MI := fun s => (m s).bind fun p => match p.1 with
  | [⟨.int i, .dat⟩, ⟨.int j, .dat⟩] => if (smallI i && smallI j) = true then some (rngD i (j - i).toNat, true, p.2) else none
  | _ => none
theorem si_rng2 {tg : Expr} {m : MA} {p pos : Pos} (hg : Gl X "range") (hm : X.mg "range" = none) (ha : SA G Y X [a, b] m) (hs : starEach [a, b] X.env = [(false, eval a X.env), (false, eval b X.env)] := by rfl) (hs2 : starEach [b] X.env = [(false, eval b X.env)] := by rfl) :
    SI G Y X tg (.Call (.Name "range" p) [a, b] [] pos) (mRng2 m) := by
  refine ⟨fun pins s sg H R I q => (pi_range2 (tg := tg) hg hm ha hs hs2).run pins s sg H R I ?_⟩
  obtain ⟨N, st, ds, b, r, at_, q, k⟩ := q
  unfold mRng2 at q
  simp only [Option.bind_eq_some_iff] at q
  obtain ⟨⟨es, r1⟩, h1, h2⟩ := q
  simp only at h2
  split at h2
  · rename_i i j
    split at h2
    · rename_i hj
      cases h2
      rw [Bool.and_eq_true] at hj
      have hi := of_decide_eq_true hj.1
      have hj := of_decide_eq_true hj.2
      refine ⟨N, st, _, _, at_, h1, fun vs H1 x w o => ?_⟩
      have rl := evs_reps (l := [.int i, .int j]) o
      simp only [RepL, Rep] at rl
      obtain ⟨v, t, rfl, rfl, u, t2, rfl, rfl, rfl⟩ := rl
      exact ⟨i, j, rfl, ⟨hi.1, hi.2, hj.1, hj.2⟩, k [] _ H1 x w (fun q hq => by cases hq) (fun _ q hq => by cases hq) it_rng⟩
    · cases h2
  · cases h2
def mRng3 (m : MA) : MI := fun s => (m s).bind fun p => match p.1 with
  | [⟨.int i, .dat⟩, ⟨.int j, .dat⟩, ⟨.int (-1), .dat⟩] => if (smallI i && smallI j) = true then some (rngDown i (i - j).toNat, true, p.2) else none
  | _ => none
theorem si_rng3 {tg : Expr} {m : MA} {p pos : Pos} (hg : Gl X "range") (hm : X.mg "range" = none) (ha : SA G Y X [a, b, c] m) (hs : starEach [a, b, c] X.env = (false, eval a X.env) :: starEach [b, c] X.env := by rfl) (hpl : (backTo pos (starEach [b, c] X.env)).any (·.1) = false := by rfl) :
    SI G Y X tg (.Call (.Name "range" p) [a, b, c] [] pos) (mRng3 m) := by
  refine ⟨fun pins s sg H R I q => (pi_range3 (tg := tg) hg hm ha hs hpl).run pins s sg H R I ?_⟩
  obtain ⟨N, st, ds, b, r, at_, q, k⟩ := q
  unfold mRng3 at q
  simp only [Option.bind_eq_some_iff] at q
  obtain ⟨⟨es, r1⟩, h1, h2⟩ := q
  simp only at h2
  split at h2
  · rename_i i j
    split at h2
    · rename_i hj
      cases h2
      rw [Bool.and_eq_true] at hj
      have hi := of_decide_eq_true hj.1
      have hj := of_decide_eq_true hj.2
      refine ⟨N, st, _, _, at_, h1, fun vs H1 x w o => ?_⟩
      have rl := evs_reps (l := [.int i, .int j, .int (-1)]) o
      simp only [RepL, Rep] at rl
      obtain ⟨v, t, rfl, rfl, u, t2, rfl, rfl, u3, t3, rfl, rfl, rfl⟩ := rl
      exact ⟨i, j, -1, (i - j).toNat, rfl, RgC.neg hi.1 hi.2 hj.1 hj.2, k [] _ H1 x w (fun q hq => by cases hq) (fun _ q hq => by cases hq) it_rngDown⟩
    · cases h2
  · cases h2
def mEnT (m : MA) : MI := fun s => (m s).bind fun p => match p.1 with
  | [⟨.tup l, kd⟩] => if noBorK ⟨.tup l, kd⟩ = true then some (enumD l, true, p.2) else none
  | _ => none
theorem si_enT {elts : List Expr} {kk : Nat} {m : MA} {p pos tpos : Pos} (ft : Fit G X) (hg : Gl X "enumerate") (hm : X.mg "enumerate" = none) (ha : SA G Y X [a] m) (hs : starEach [a] X.env = [(false, eval a X.env)] := by rfl) :
    SI G Y X (.Tuple elts kk tpos) (.Call (.Name "enumerate" p) [a] [] pos) (mEnT m) := by
  refine ⟨fun pins s sg H R I q => (pi_enumT (elts := elts) (kk := kk) (tpos := tpos) hg hm ha hs).run pins s sg H R I ?_⟩
  obtain ⟨N, st, ds, b, r, at_, q, k⟩ := q
  unfold mEnT at q
  simp only [Option.bind_eq_some_iff] at q
  obtain ⟨⟨es, r1⟩, h1, h2⟩ := q
  simp only at h2
  split at h2
  · rename_i l kd
    split at h2
    · rename_i hj
      cases h2
      refine ⟨N, st, _, _, at_, h1, fun vs H1 x w o => ?_⟩
      have rl := o.reps (by simpa [noBor, noBorK] using hj)
      simp only [List.map, RepL] at rl
      obtain ⟨v, t, rfl, r1, rfl⟩ := rl
      have r1' := r1
      simp only [Rep] at r1
      obtain ⟨p, us, rfl, e2, rl⟩ := r1
      refine ⟨p, us, rfl, SqT.of e2, ?_⟩
      rw [ft.K]
      refine k [.inl (.ref p, .tup l)] _ H1 x w ?_ ?_ it_enumT
      · intro q hq; rw [List.mem_singleton.mp hq]; exact Rep.top r1'
      · intro hb q hq; rw [List.mem_singleton.mp hq]; exact r1'
    · cases h2
  · cases h2
def mEnL (m : MA) : MI := fun s => (m s).bind fun p => match p.1 with
  | [⟨.lst l, kd⟩] => if noBorK ⟨.lst l, kd⟩ = true then some (enumD l, true, p.2) else none
  | _ => none
theorem si_enL {elts : List Expr} {kk : Nat} {m : MA} {p pos tpos : Pos} (ft : Fit G X) (hg : Gl X "enumerate") (hm : X.mg "enumerate" = none) (ha : SA G Y X [a] m) (hs : starEach [a] X.env = [(false, eval a X.env)] := by rfl) :
    SI G Y X (.Tuple elts kk tpos) (.Call (.Name "enumerate" p) [a] [] pos) (mEnL m) := by
  refine ⟨fun pins s sg H R I q => (pi_enum (elts := elts) (kk := kk) (tpos := tpos) hg hm ha hs).run pins s sg H R I ?_⟩
  obtain ⟨N, st, ds, b, r, at_, q, k⟩ := q
  unfold mEnL at q
  simp only [Option.bind_eq_some_iff] at q
  obtain ⟨⟨es, r1⟩, h1, h2⟩ := q
  simp only at h2
  split at h2
  · rename_i l kd
    split at h2
    · rename_i hj
      cases h2
      refine ⟨N, st, _, _, at_, h1, fun vs H1 x w o => ?_⟩
      have rl := o.reps (by simpa [noBor, noBorK] using hj)
      simp only [List.map, RepL] at rl
      obtain ⟨v, t, rfl, r1, rfl⟩ := rl
      have r1' := r1
      simp only [Rep] at r1
      obtain ⟨p, us, rfl, _, _, e2, rl⟩ := r1
      refine ⟨p, us, rfl, SqL.of e2, ?_⟩
      rw [ft.K]
      refine k [.inl (.ref p, .lst l)] _ H1 x w ?_ ?_ it_enumL
      · intro q hq; rw [List.mem_singleton.mp hq]; exact Rep.top r1'
      · intro hb q hq; rw [List.mem_singleton.mp hq]; exact r1'
    · cases h2
  · cases h2
def mZip (m : MA) : MI := fun s => (m s).bind fun p => match p.1 with
  | [⟨.lst l, kd⟩, ⟨.tup l2, kd2⟩] => if (noBorK ⟨.lst l, kd⟩ && noBorK ⟨.tup l2, kd2⟩ && decide (l.length = l2.length)) = true then some (zipD l l2, true, p.2) else none
  | _ => none
theorem si_zip {elts : List Expr} {kk : Nat} {m : MA} {p pos tpos : Pos} (ft : Fit G X) (hg : Gl X "zip") (hm : X.mg "zip" = none) (ha : SA G Y X [a, b] m) 
    (hs : starEach [a, b] X.env = (false, eval a X.env) :: starEach [b] X.env := by rfl) (hpl : (backTo pos (starEach [b] X.env)).any (·.1) = false := by rfl) :
    SI G Y X (.Tuple elts kk tpos) (.Call (.Name "zip" p) [a, b] [] pos) (mZip m) := by
  refine ⟨fun pins s sg H R I q => (pi_zipLT (elts := elts) (kk := kk) (tpos := tpos) hg hm ha hs hpl).run pins s sg H R I ?_⟩
  obtain ⟨N, st, ds, b, r, at_, q, k⟩ := q
  unfold mZip at q
  simp only [Option.bind_eq_some_iff] at q
  obtain ⟨⟨es, r1⟩, h1, h2⟩ := q
  simp only at h2
  split at h2
  · rename_i l kd l2 kd2
    split at h2
    · rename_i hj
      cases h2
      rw [Bool.and_eq_true, Bool.and_eq_true, decide_eq_true_eq] at hj
      refine ⟨N, st, _, _, at_, h1, fun vs H1 x w o => ?_⟩
      have rl := o.reps (by simpa [noBor, noBorK] using hj.1)
      simp only [List.map, RepL] at rl
      obtain ⟨v, t, rfl, r1, v2, t2, rfl, r2, rfl⟩ := rl
      have r1' := r1
      have r2' := r2
      simp only [Rep] at r1 r2
      obtain ⟨p, us, rfl, _, _, e2, rl⟩ := r1
      obtain ⟨p2, us2, rfl, e3, rl2⟩ := r2
      refine ⟨p, p2, us, us2, rfl, SqL.of e2, SqT.of e3, ?_⟩
      rw [ft.K]
      refine k [.inl (.ref p, .lst l), .inl (.ref p2, .tup l2)] _ H1 x w ?_ ?_ (it_zip hj.2)
      · intro q hq
        rcases List.mem_cons.mp hq with rfl | hq
        · exact Rep.top r1'
        · rw [List.mem_singleton.mp hq]; exact Rep.top r2'
      · intro hb q hq
        rcases List.mem_cons.mp hq with rfl | hq
        · exact r1'
        · rw [List.mem_singleton.mp hq]; exact r2'
    · cases h2
  · cases h2
end
end GD
/-! Gm -/
set_option maxHeartbeats 4000000
/-! Gm: for, while, defs. -/
namespace GD
open PySem L2
section
variable {G : GC} {Y : AS} {X : Cx} {e a b c : Expr} {es : List Expr} {pos : Pos}
/-! ### a loop's target -/
inductive Tg where
  | one (i : Nat)
  | many (is : List Nat)
def gTg (K : PySem.W.Frag) : Tg → TG
  | .one i => gName i
  | .many is => gTup K is.length (gNames is)
def bindT : Tg → Sl → D → Option Sl
  | .one i, sl, d => some (sl.set i (some (.dat d)))
  | .many is, sl, .tup l => setE sl is (l.map datE)
  | _, _, _ => none
theorem AtS.grow {N0 N : AS} {pn : Pin} {sg : St} {H H' : Hp} {s : MS} (h : AtS G Y N0 pn N sg H s) (g : Grow G H H') : AtS G Y N0 pn (Nf N H) sg H' s := h.wide g.ext (g.row _ h.at_.row)
theorem bind_at {N0 N : AS} {pn : Pin} {sg : St} {H H' : Hp} {s : MS} {x : V} {d : D} {t : Tg} {sl' : Sl} {Q : St → Hp → Prop} (h : AtS G Y N0 pn N sg H s) (g : Grow G H H') (r : Rep G (Nf N H) H' x d) (q : bindT t s.sl d = some sl')
    (k : ∀ sg' N', AtS G Y N0 pn N' sg' H' ⟨sl', s.rw⟩ → Q sg' H') : gTg G.K t x sg H' Q := by
  cases t with
  | one i =>
    cases q
    obtain ⟨N', q⟩ := h.keep (i := i) (e := ⟨d, .dat⟩) g.ext (g.row _ h.at_.row) r rfl
    exact k _ N' q
  | many is =>
    cases d <;> simp only [bindT] at q <;> try cases q
    rename_i l
    simp only [Rep] at r
    obtain ⟨p, vs, rfl, ea, ra⟩ := r
    have hl : vs.length = is.length := by rw [ra.len, ← setE_len q, List.length_map]
    refine ⟨p, vs, rfl, SqT.of ea, hl, gNames_of hl ?_⟩
    obtain ⟨N', q⟩ := h.many g.ext (g.row _ h.at_.row) (evs_dat ra) q
    exact k _ N' q
/-! ### for -/
def mFor (t : Tg) (body : MSt) : List D → Sl → Rw → Option (Fl × Rw)
  | [], sl, r => some (.nx sl, r)
  | d :: ds, sl, r => (bindT t sl d).bind fun sl1 => (body ⟨sl1, r⟩).bind fun p => match p.1 with
    | .nx sl2 => mFor t body ds sl2 p.2
    | .ct sl2 => mFor t body ds sl2 p.2
    | .bk sl2 => some (.nx sl2, p.2)
    | .rt e => some p
def mForS (t : Tg) (mi : MI) (body : MSt) : MSt := fun s => (mi s).bind fun p => if p.2.1 = true then mFor t body p.1 s.sl p.2.2 else none
theorem Pins.app {N : AS} {H : Hp} {p q : Pin} (h : Pins G N H p) (h2 : Pins G N H q) : Pins G N H (p ++ q) := fun x hx => (List.mem_append.mp hx).elim (h x) (h2 x)
theorem AtS.unpin {N0 N : AS} {p q : Pin} {sg : St} {H : Hp} {s : MS} (h : AtS G Y N0 (p ++ q) N sg H s) : AtS G Y N0 q N sg H s := ⟨h.at_, h.fm, h.sub, fun x hx => h.pin x (List.mem_append_right _ hx)⟩
theorem ss_for {tg iter : Expr} {t : Tg} {body : List Stmt} {mi : MI} {m : MSt} (hp : PassesOwn (model X.prog X.w) X.A X.env X.xe) (ft : Fit G X) (hi : SI G Y X tg iter mi) (hg : PG X tg (gTg G.K t)) (hb : SSs G Y X body m)
    (hs : ∀ x, foldedSetIterable iter X.env x = pure x := by intro _; rfl) : SS G Y X (.For tg iter body [] pos) (mForS t mi m) :=
  PS.weak (ps_for hp ft.calm hi hg hb hs) fun D sg H h => by
    obtain ⟨N0, pn, N, s, fl, r, at_, q, k⟩ := h
    unfold mForS at q
    simp only [Option.bind_eq_some_iff] at q
    obtain ⟨⟨ds, b, r1⟩, h1, h2⟩ := q
    simp only at h2
    split at h2
    · rename_i hb
      refine ⟨N, s, ds, b, r1, at_.at_, h1, fun pi J H1 x w _ pins it => ?_⟩
      have pins := pins hb
      have a0 := at_.wide x w
      refine for_it (n := ds.length) it.walk (fun i sg' H' => ∃ N' sl' r', ExtY G Y H1 H' ∧ AtS G Y N0 (pi ++ pn) N' sg' H' ⟨sl', r'⟩ ∧ mFor t m (ds.drop i) sl' r' = some (fl, r)) ?_ ?_ ?_ ?_
      · exact ⟨_, s.sl, r1, (Ext.refl G H1).y, ⟨a0.at_, a0.fm, a0.sub, pins.app a0.pin⟩, by rw [List.drop_zero]; exact h2⟩
      · rintro i sg' H' hi ⟨N', sl', r', _, a1, _⟩
        exact ⟨N', Pins.lean fun z hz => a1.pin z (List.mem_append_left _ hz)⟩
      · rintro i x' sg' H' H'' hi ⟨N', sl', r', y1, a1, hm⟩ ⟨gr, hd⟩
        obtain ⟨d, e1, rx⟩ := hd N' (Pins.lean fun z hz => a1.pin z (List.mem_append_left _ hz))
        rw [List.drop_eq_getElem_cons hi] at hm
        have e2 : ds[i] = d := by rw [List.getElem?_eq_getElem hi] at e1; exact Option.some.inj e1
        rw [e2] at hm
        simp only [mFor, Option.bind_eq_some_iff] at hm
        obtain ⟨sl1, hb1, ⟨f1, r2⟩, hb2, hb3⟩ := hm
        refine bind_at a1 gr rx hb1 fun sg2 N2 a2 => ⟨N0, pi ++ pn, N2, ⟨sl1, r'⟩, f1, r2, a2, hb2, ?_⟩
        have yy : ExtY G Y H1 H'' := y1.trans gr.ext.y
        cases f1 with
        | nx sl2 => exact fun sg3 H3 N3 y3 a3 => ⟨N3, sl2, r2, yy.trans y3, a3, hb3⟩
        | ct sl2 => exact fun sg3 H3 N3 y3 a3 => ⟨N3, sl2, r2, yy.trans y3, a3, hb3⟩
        | bk sl2 =>
          cases hb3
          exact fun sg3 H3 N3 y3 a3 => k sg3 H3 N3 (x.y.trans (yy.trans y3)) a3.unpin
        | rt e =>
          cases hb3
          exact fun v H3 y3 => k v H3 (x.y.trans (yy.trans y3))
      · rintro sg' H' ⟨N', sl', r', y1, a1, hm⟩
        rw [List.drop_length] at hm
        cases hm
        exact k sg' H' N' (x.y.trans y1) a1.unpin
    · cases h2
/-! ### while -/
def mWh (t : MT) (body : MSt) : Nat → MSt
  | 0, _ => none
  | n + 1, s => (t s).bind fun p => if p.1 = true then (body ⟨s.sl, p.2⟩).bind fun q => match q.1 with
    | .nx sl => mWh t body n ⟨sl, q.2⟩
    | .ct sl => mWh t body n ⟨sl, q.2⟩
    | .bk sl => some (.nx sl, q.2)
    | .rt e => some q
    else some (.nx s.sl, p.2)
theorem ss_while (n : Nat) {body : List Stmt} {t : MT} {m : MSt} (hp : PassesOwn (model X.prog X.w) X.A X.env X.xe) (hc : ST G Y X c t) (hb : SSs G Y X body m) : SS G Y X (.While c body [] pos) (mWh t m n) :=
  PS.weak (ps_while hp hc hb) fun D sg H h => by
    obtain ⟨N0, pn, N, s, fl, r, at_, q, k⟩ := h
    refine ⟨fun j sg' H' => ∃ N' s', ExtY G Y H H' ∧ AtS G Y N0 pn N' sg' H' s' ∧ mWh t m j s' = some (fl, r), ⟨n, N, s, (Ext.refl G H).y, at_, q⟩, ?_⟩
    rintro j sg' H' ⟨N', s', y, a, q⟩
    cases j with
    | zero => simp [mWh] at q
    | succ j =>
      simp only [mWh, Option.bind_eq_some_iff] at q
      obtain ⟨⟨b, r1⟩, h1, h2⟩ := q
      refine ⟨N', s', b, r1, a.at_, h1, fun H1 x w => ?_⟩
      have a1 := a.ext x w
      cases b with
      | false =>
        cases h2
        exact k sg' H1 N' (y.trans x.y) a1
      | true =>
        simp only [if_true, Option.bind_eq_some_iff] at h2 ⊢
        obtain ⟨⟨f1, r2⟩, h3, h4⟩ := h2
        refine ⟨fun sg2 H2 => ∃ N2 s2, ExtY G Y H H2 ∧ AtS G Y N0 pn N2 sg2 H2 s2 ∧ mWh t m j s2 = some (fl, r), fun sg2 H2 z => ⟨j, Nat.lt_succ_self j, z⟩, N0, pn, N', ⟨s'.sl, r1⟩, f1, r2, a1, h3, ?_⟩
        have yy := y.trans x.y
        cases f1 with
        | nx sl2 => exact fun sg3 H3 N3 y3 a3 => ⟨N3, ⟨sl2, r2⟩, yy.trans y3, a3, h4⟩
        | ct sl2 => exact fun sg3 H3 N3 y3 a3 => ⟨N3, ⟨sl2, r2⟩, yy.trans y3, a3, h4⟩
        | bk sl2 =>
          cases h4
          exact fun sg3 H3 N3 y3 a3 => k sg3 H3 N3 (yy.trans y3) a3
        | rt e =>
          cases h4
          exact fun v H3 y3 => k v H3 (yy.trans y3)
/-! ### a def -/
/-- what a def answers, by its body's mirror (n slots) -/
def mBody (n : Nat) (m : MSt) : MF := fun ds r => (m ⟨ds.map (fun d => some (.dat d)) ++ List.replicate (n - ds.length) none, r⟩).bind fun p => match p.1 with
  | .rt e => some (e, p.2)
  | .nx _ => some (⟨.non, .dat⟩, p.2)
  | _ => none
theorem start_slots {N : AS} {H : Hp} {n : Nat} {vs : List V} {ds : List D} (r : RepL G N H vs ds) (Nm : List Str) (hn : Nm.length = n) (Y : AS) : SlOk G Y N (L2.start Nm vs) (ds.map (fun d => some (.dat d)) ++ List.replicate (n - ds.length) none) H where
  dat := fun i d e => by
    rw [List.getElem?_append] at e
    split at e
    · rw [List.getElem?_map] at e
      obtain ⟨d', h1, h2⟩ := Option.map_eq_some_iff.mp e
      cases h2
      obtain ⟨v, hv, rv⟩ := r.getD h1
      refine ⟨v, ?_, rv⟩
      unfold L2.start
      rw [List.getElem?_append_left (by rw [List.length_map]; exact (List.getElem?_eq_some_iff.mp hv).1), List.getElem?_map, hv]
      rfl
    · rw [List.getElem?_replicate] at e
      split at e <;> cases e
  own := fun i d e => by
    rw [List.getElem?_append] at e
    split at e
    · rw [List.getElem?_map] at e
      obtain ⟨d', h1, h2⟩ := Option.map_eq_some_iff.mp e
      cases h2
    · rw [List.getElem?_replicate] at e
      split at e <;> cases e
  sep := fun i j d f a e _ _ _ => by
    rw [List.getElem?_append] at e
    split at e
    · rw [List.getElem?_map] at e
      obtain ⟨d', h1, h2⟩ := Option.map_eq_some_iff.mp e
      cases h2
    · rw [List.getElem?_replicate] at e
      split at e <;> cases e
  len := by unfold L2.start; simp [r.len, hn]
theorem body_q {P : Program} {w : World} {K : PySem.W.Frag} {T : List Addr × List Int} {np n : Nat} {Nm : List Str} {m : MSt} {vs : List V} {H : Hp} {Q : VK} {E : XK} (hn : Nm.length = n) (h : spG P w K T np (mBody n m) vs H Q E) :
    ∃ (G : GC) (Y : AS), G.P = P ∧ G.w = w ∧ G.K = K ∧ (G.tabs, G.ns) = T ∧ rdS G Y m { nx := fun _ H' => Q .non H', rt := Q } (L2.start Nm vs) H := by
  obtain ⟨G, N, ds, r, e, r', h1, h2, h3, h4, _, row, nro, rl, q, hb, k⟩ := h
  refine ⟨G, fun a => H a = none, h1, h2, h3, h4, ?_⟩
  unfold mBody at q
  simp only [Option.bind_eq_some_iff] at q
  obtain ⟨⟨fl, r1⟩, q1, q2⟩ := q
  have ext : ∀ {H' : Hp}, ExtY G (fun a => H a = none) H H' → Ext G H H' := fun y => ⟨fun a o e n t => y.keep a o e (by rw [e]; simp) n t, y.tups, y.live⟩
  have nsc : ¬ H G.sc = none ∨ KSc G := by
    rcases row.2.1 with (z | ⟨ob, z⟩) | z
    · exact .inl (by rw [z]; simp)
    · exact .inl (by rw [z]; simp)
    · exact .inr z
  refine ⟨Nf N H, [], N, _, fl, r1, ⟨⟨start_slots rl Nm hn _, row, nro⟩, ⟨fun _ z => z, fun _ z => .inr z, nro_nf nro row, nsc⟩, nf_of, fun q hq => by cases hq⟩, q1, ?_⟩
  cases fl with
  | rt e1 =>
    cases q2
    intro v H' y w o
    refine k v H' (ext y) w ?_
    obtain ⟨d, kd⟩ := e
    cases kd with
    | dat => exact o
    | new => exact o
    | bor => exact absurd rfl hb
  | nx sl =>
    cases q2
    intro sg' H' N' y a
    exact k .non H' (ext y) a.at_.row (show Rep G (Nf N H) H' .non .non by simp only [Rep])
  | bk sl => cases q2
  | ct sl => cases q2
/-- THE RULE for a def -/
theorem fn_def {P : Program} {w : World} {K : PySem.W.Frag} {mg : Str → Option Value} {base : Heap} {x qual : Str} {params : Arguments} {body : List Stmt} {scope : Scope} {dvs : List V} {kws : List (Str × V)} {f : Addr} {fd : FuncData} {T : List Addr × List Int} {k n np : Nat} {Nm ps : List Str} {m : MSt}
    (F : FunD K x qual params body scope dvs kws f fd) (S : FnScope Nm ps scope) (hn : Nm.length = n) (hp : ps.length = np)
    (h : ∀ (G : GC) (Y : AS) (cdv : Value) (A : Around) (outer : List Env) (s : Shared) (H : Hp) (E : XK), G.P = P → G.w = w → G.K = K → (G.tabs, G.ns) = T → Room k (A.deeper (PyProof.Rows.envOfC qual scope s.heap.objs.size f cdv)) →
      SSs G Y (cxOf CX0 P w K mg base Nm qual scope f cdv A outer s H E).nox body m) :
    FnOk P w K mg base CX0 (k + 1) f fd ps (spG P w K T np (mBody n m)) :=
  F.ok S (fun vs H Q E q => by rw [spG_len vs H Q E q, hp]) fun cdv A outer s H vs Q E hr hsp => by
    obtain ⟨G, Y, h1, h2, h3, h4, q⟩ := body_q hn hsp
    exact ⟨_, (h G Y cdv A outer s H E h1 h2 h3 h4 hr).nox, q⟩
end
end GD
/-! Gn -/
set_option maxHeartbeats 4000000
/-! Gn: list comprehensions. -/
namespace GD
open PySem L2
section
variable {G : GC} {Y : AS} {X : Cx} {e a b c : Expr} {es : List Expr} {pos : Pos}
theorem wipe_get {sg : St} {j : Nat} : ∀ {vs : List Nat}, (wipe sg vs)[j]? = if j ∈ vs then (if j < sg.length then some none else none) else sg[j]?
  | [] => by simp [wipe]
  | v :: vs => by
    unfold wipe
    rw [List.getElem?_set]
    rw [wipe_length, wipe_get (vs := vs)]
    by_cases h : v = j
    · subst h; simp
    · have h' : ¬ j = v := fun z => h z.symm
      simp [h, h']
def wipeS (sl : Sl) : List Nat → Sl
  | [] => sl
  | v :: vs => (wipeS sl vs).set v none
theorem wipeS_length (sl : Sl) : ∀ vs : List Nat, (wipeS sl vs).length = sl.length
  | [] => rfl
  | v :: vs => by unfold wipeS; rw [List.length_set, wipeS_length sl vs]
theorem wipeS_some {sl : Sl} {i : Nat} {x : SV} : ∀ {vs : List Nat}, (wipeS sl vs)[i]? = some (some x) → sl[i]? = some (some x) ∧ i ∉ vs
  | [], h => ⟨h, by simp⟩
  | v :: vs, h => by
    unfold wipeS at h
    by_cases hi : v = i
    · subst hi
      by_cases hv : v < (wipeS sl vs).length
      · rw [List.getElem?_set_self hv] at h; cases h
      · rw [List.getElem?_eq_none (by simpa using hv)] at h; cases h
    · rw [List.getElem?_set_ne hi] at h
      obtain ⟨h1, h2⟩ := wipeS_some h
      exact ⟨h1, by simp only [List.mem_cons, not_or]; exact ⟨fun e => hi e.symm, h2⟩⟩
theorem SlOk.wipe {N : AS} {sg : St} {sl : Sl} {H : Hp} (vs : List Nat) (h : SlOk G Y N sg sl H) : SlOk G Y N (L2.wipe sg vs) (wipeS sl vs) H where
  dat := fun i d e => by
    obtain ⟨e1, n⟩ := wipeS_some e
    rw [wipe_out n]
    exact h.dat i d e1
  own := fun i d e => by
    obtain ⟨e1, n⟩ := wipeS_some e
    rw [wipe_out n]
    exact h.own i d e1
  sep := fun i j d f b e1 e2 e3 e4 => by
    obtain ⟨e1, n1⟩ := wipeS_some e1
    obtain ⟨e2, n2⟩ := wipeS_some e2
    rw [wipe_out n1] at e3
    rw [wipe_out n2] at e4
    exact h.sep i j d f b e1 e2 e3 e4
  len := by rw [wipe_length, wipeS_length]; exact h.len
def tgIn (vs : List Nat) : Tg → Bool
  | .one i => vs.contains i
  | .many is => is.all fun i => vs.contains i
theorem wipe_set {sg : St} {vs : List Nat} {i : Nat} {x : Option V} (h : i ∈ vs) : wipe (sg.set i x) vs = wipe sg vs := by
  apply List.ext_getElem?
  intro j
  rw [wipe_get, wipe_get, List.length_set]
  by_cases hj : j ∈ vs
  · simp [hj]
  · rw [if_neg hj, if_neg hj, List.getElem?_set_ne (fun z => by subst z; exact hj h)]
theorem wipe_wipe {sg : St} {vs : List Nat} : wipe (wipe sg vs) vs = wipe sg vs := by
  apply List.ext_getElem?
  intro j
  rw [wipe_get, wipe_get, wipe_length]
  by_cases hj : j ∈ vs
  · simp [hj]
  · rw [if_neg hj, if_neg hj]
    try rw [wipe_get, if_neg hj]
theorem wipe_setV {vs : List Nat} : ∀ {is : List Nat} {xs : List V} {sg : St}, (∀ i ∈ is, i ∈ vs) → wipe (setV sg is xs) vs = wipe sg vs
  | [], xs, sg, h => by cases xs <;> rfl
  | i :: is, [], sg, h => rfl
  | i :: is, x :: xs, sg, h => by
    simp only [setV]
    rw [wipe_setV fun j hj => h j (List.mem_cons_of_mem _ hj), wipe_set (h i List.mem_cons_self)]
theorem At.grow {N : AS} {sg : St} {H H' : Hp} {s : MS} (h : At G Y N sg H s) (g : Grow G H H') : At G Y (Nf N H) sg H' s :=
  ⟨(h.sl.wide nf_of fun _ z => z).ext g.ext, g.row _ h.row, nro_nf h.nro h.row⟩
theorem EvL.dats {M : AS} {H : Hp} : ∀ {l : List D} {vs : List V}, RepL G M H vs l → EvL G M (fun _ => False) H vs (l.map datE)
  | [], vs, h => by simp only [RepL] at h; subst h; simp only [List.map_nil, EvL]
  | d :: r, vs, h => by
    simp only [RepL] at h
    obtain ⟨v, t, rfl, h1, h2⟩ := h
    simp only [List.map_cons, EvL]
    exact ⟨v, t, rfl, h1, EvL.dats h2⟩
theorem news_dats : ∀ {l : List D} {vs : List V}, newsOf vs (l.map datE) = []
  | [], vs => by cases vs <;> rfl
  | d :: r, [] => rfl
  | d :: r, v :: vs => by simp only [List.map_cons, newsOf, datE]; exact news_dats
/-- a target bound, in an expression -/
theorem bind_e {N : AS} {sg : St} {H : Hp} {s : MS} {x : V} {d : D} {t : Tg} {sl' : Sl} {vs : List Nat} {Q : St → Hp → Prop} (h : At G Y N sg H s) (r : Rep G N H x d) (q : bindT t s.sl d = some sl') (hv : tgIn vs t = true)
    (k : ∀ sg', wipe sg' vs = wipe sg vs → At G Y N sg' H ⟨sl', s.rw⟩ → Q sg' H) : gTg G.K t x sg H Q := by
  cases t with
  | one i =>
    cases q
    exact k _ (wipe_set (by simpa [tgIn] using hv)) ⟨h.sl.setDat r, h.row, h.nro⟩
  | many is =>
    cases d <;> simp only [bindT] at q <;> try cases q
    rename_i l
    simp only [Rep] at r
    obtain ⟨p, xs, rfl, ea, ra⟩ := r
    have hl : xs.length = is.length := by rw [ra.len, ← setE_len q, List.length_map]
    refine ⟨p, xs, rfl, SqT.of ea, hl, gNames_of hl ?_⟩
    refine k _ (wipe_setV (by simpa [tgIn] using hv)) ⟨set_many (O := fun _ => False) (fun _ z => z.elim) h.sl (EvL.dats ra) ?_ (fun j f w e1 e2 hm => ?_) q, h.row, h.nro⟩
    · rw [news_dats]; exact List.nodup_nil
    · rw [news_dats] at hm; cases hm
/-! ### list comprehensions -/
def mYes : MT := fun s => some (true, s.rw)
def mLcGo (t : Tg) (mt : MT) (me : ME) (sl : Sl) : List D → Rw → List D → Option (List D × Rw)
  | [], r, acc => some (acc, r)
  | d :: ds, r, acc => (bindT t sl d).bind fun sl1 => (mt ⟨sl1, r⟩).bind fun p => if p.1 = true then (me ⟨sl1, p.2⟩).bind fun q => if (noBorK q.1 && decide (acc.length < lim)) = true then mLcGo t mt me sl ds q.2 (acc ++ [q.1.d]) else none
    else mLcGo t mt me sl ds p.2 acc
def mLc (t : Tg) (vs : List Nat) (mi : MI) (mt : MT) (me : ME) : ME := fun s => (mi s).bind fun p => (mLcGo t mt me (wipeS s.sl vs) p.1 p.2.2 []).map fun q => (⟨.lst q.1, .new⟩, q.2)
theorem row_upd {H1 H4 : Hp} {r r2 : Rw} {D : Addr} {o : HO} (h1 : H1 D = none) (w1 : RowAt G H1 r) (w4 : RowAt G H4 r2) : RowAt G (upd H4 D o) r2 := by
  obtain ⟨a1, a2, a3⟩ := w1
  obtain ⟨b1, b2, b3⟩ := w4
  refine ⟨by rw [upd_ne (ne_of_none a1 h1)]; exact b1, ?_, fun P hP => ?_⟩
  · rcases a2 with (z | ⟨ob, z⟩) | z
    · have n := ne_of_none z h1
      rcases b2 with (y | ⟨ob, y⟩) | y
      · exact .inl (.inl (by rw [upd_ne n]; exact y))
      · exact .inl (.inr ⟨ob, by rw [upd_ne n]; exact y⟩)
      · exact .inr y
    · have n := ne_of_none z h1
      rcases b2 with (y | ⟨ob, y⟩) | y
      · exact .inl (.inl (by rw [upd_ne n]; exact y))
      · exact .inl (.inr ⟨ob, by rw [upd_ne n]; exact y⟩)
      · exact .inr y
    · exact .inr z
  · obtain ⟨ps, t1, _⟩ := a3 P hP
    obtain ⟨ps', t2, t3⟩ := b3 P hP
    exact ⟨ps', by rw [upd_ne (ne_of_none t1 h1)]; exact t2, t3⟩
theorem rd_lc {t : Tg} {vs : List Nat} {mi : MI} {mt : MT} {me : ME} {sg : St} {H : Hp} {Q : VK} (hv : tgIn vs t = true) (h : rdE G Y (mLc t vs mi mt me) sg H Q) : tLc (rdI G Y mi) (gTg G.K t) (rdT G Y mt) (rdE G Y me) vs sg H Q := by
  obtain ⟨N, s, e, r, at_, q, k⟩ := h
  unfold mLc at q
  simp only [Option.bind_eq_some_iff, Option.map_eq_some_iff] at q
  obtain ⟨⟨ds, b, r1⟩, h1, ⟨res, r2⟩, h2, h3⟩ := q
  cases h3
  refine ⟨N, s, ds, b, r1, at_, h1, fun pn J H1 x w pins _ it D hD => ?_⟩
  have nro : D ≠ G.ro := fun z => w.live (z ▸ hD)
  let M : AS := fun z => (Nf N H z ∨ H1 z = none) ∧ z ≠ D
  have M1 : ∀ z, Nf N H z → H1 z ≠ none → M z := fun z h1 h2 => ⟨.inl h1, fun e => h2 (e ▸ hD)⟩
  -- the slots, told by M
  have slM : SlOk G Y M (L2.wipe sg vs) (wipeS s.sl vs) H1 := by
    have s1 : SlOk G Y (Nf N H) sg s.sl H1 := (at_.sl.wide nf_of fun _ z => z).ext x
    have s2 : SlOk G Y (fun z => Nf N H z ∧ H1 z ≠ none) sg s.sl H1 := s1.less (fun z h1 h2 => ⟨h1, h2⟩) fun z h => h.1
    have s3 : SlOk G Y M sg s.sl H1 := s2.wide (fun z h => M1 z h.1 h.2) fun z h => by
      by_cases hz : H1 z = none
      · exact .inr hz
      · exact .inl ⟨h.1.resolve_right hz, hz⟩
    exact s3.wipe vs
  have pinM : PinsL G M H1 pn := fun q hq => by
    have := pins q hq
    cases q with
    | inl y => exact SlOk.less.Top.less this M1
    | inr y => exact this
  have mro : ¬ M G.ro := fun z => z.1.elim (nro_nf at_.nro at_.row) w.live
  have ext1 : ∀ {H' : Hp}, Ext G H1 H' → ∀ z, H' z = none → z ≠ D → M z := fun x' z h n => ⟨.inr (x'.live z h), n⟩
  refine lc_it (n := ds.length) it.walk (fun i H' => ∃ r' vs' acc, Ext G H1 H' ∧ RowAt G H' r' ∧ H' D = some (.lst vs') ∧ RepL G M H' vs' acc ∧ mLcGo t mt me (wipeS s.sl vs) (ds.drop i) r' acc = some (res, r2)) ?_ ?_ ?_ ?_
  · exact ⟨r1, [], [], Ext.new hD, row_upd hD w w, upd_same, RepL.nil, by rw [List.drop_zero]; exact h2⟩
  · rintro i H' hi ⟨r', vs', acc, x', _⟩
    exact ⟨M, pinM.fix x' fun _ z => z⟩
  · rintro i v H' H'' hi ⟨r', vs', acc, x', w', hDl, racc, hm⟩ ⟨gr, hd⟩
    obtain ⟨d, e1, rx⟩ := hd M (pinM.fix x' fun _ z => z)
    rw [List.drop_eq_getElem_cons hi] at hm
    have e2 : ds[i] = d := by rw [List.getElem?_eq_getElem hi] at e1; exact Option.some.inj e1
    rw [e2] at hm
    simp only [mLcGo, Option.bind_eq_some_iff] at hm
    obtain ⟨sl1, hb1, ⟨bb, r3⟩, hb2, hb3⟩ := hm
    have dl : ∀ {H' : Hp} {o : HO}, H' D = some o → ∀ z, H' z = none → z ≠ D := fun h z h2 e => by rw [e, h] at h2; cases h2
    have mf : ∀ z, Nf M H' z → M z := fun z h => h.elim id fun h => ext1 x' z h (dl hDl z h)
    have x'' : Ext G H1 H'' := x'.trans gr.ext
    have hD'' : H'' D = some (.lst vs') := gr.ext.keep D _ hDl nro fun ps z => by cases z
    have a2 : At G Y M (L2.wipe sg vs) H'' ⟨wipeS s.sl vs, r'⟩ := ⟨slM.ext x'', gr.row _ w', mro⟩
    refine bind_e a2 (Rep.mono mf rx) hb1 hv fun sg2 hw a3 => ⟨by rw [hw, wipe_wipe], M, ⟨sl1, r'⟩, bb, r3, a3, hb2, fun H3 x3 w3 => ?_⟩
    have x13 := x''.trans x3
    have hD3 : H3 D = some (.lst vs') := x3.keep D _ hD'' nro fun ps z => by cases z
    cases bb with
    | false =>
      simp only [Bool.false_eq_true, if_false] at hb3 ⊢
      exact ⟨r3, vs', acc, x13, w3, hD3, racc.ext (gr.ext.trans x3), hb3⟩
    | true =>
      simp only [if_true, Option.bind_eq_some_iff] at hb3 ⊢
      obtain ⟨⟨ev, r4⟩, hb4, hb5⟩ := hb3
      simp only at hb5
      split at hb5
      · rename_i hc
        rw [Bool.and_eq_true, decide_eq_true_eq] at hc
        refine ⟨M, ⟨sl1, r3⟩, ev, r4, a3.ext x3 w3, hb4, fun y H4 x4 w4 o => ?_⟩
        have x14 := x13.trans x4
        have hD4 : H4 D = some (.lst vs') := x4.keep D _ hD3 nro fun ps z => by cases z
        have ry : Rep G M H4 y ev.d := Rep.mono (fun z h => h.elim id fun h => ext1 x13 z h (dl hD3 z h)) (nobor_rep o hc.1)
        have ra4 : RepL G M H4 vs' acc := racc.ext (gr.ext.trans (x3.trans x4))
        have fx : Fix G M H4 (upd H4 D (.lst (vs' ++ [y]))) := fix_mut hD4 (fun xs z => by cases z) fun z => z.2 rfl
        refine ⟨vs', hD4, Nat.lt_of_lt_of_le (by rw [racc.len]; exact hc.2) (by decide : lim ≤ sizeLine), r4, vs' ++ [y], acc ++ [ev.d], ?_, row_upd hD w w4, upd_same, ?_, hb5⟩
        · refine ⟨fun z o h n t => ?_, fun z xs h => ?_, fun z h => ?_⟩
          · rw [upd_ne (ne_of_none h hD)]; exact x14.keep z o h n t
          · rw [upd_ne (ne_of_none h hD)]; exact x14.tups z xs h
          · by_cases e : z = D
            · rw [e, upd_same] at h; cases h
            · rw [upd_ne e] at h; exact x14.live z h
        · exact (ra4.fix fx (fun _ z => z)).append (RepL.cons (Rep.fix fx (fun _ z => z) _ _ ry) RepL.nil)
      · cases hb5
  · rintro H' ⟨r', vs', acc, x', w', hDl, racc, hm⟩
    rw [List.drop_length] at hm
    cases hm
    refine k _ H' (x.trans x') w' ⟨rfl, D, rfl, x.live D hD, D, vs', rfl, nro, hDl, racc.mono fun z h => ⟨h.1.elim id fun h => .inr (x.live z h), h.2⟩⟩
end
end GD
/-! Go -/
set_option maxHeartbeats 4000000
/-! Go: the frame of a generator expression. -/
namespace GD
open PySem PySem.Spec PyProof.Rows L2 GenW
open Sem (wp)
theorem over_gen {A : Around} {elt tg iter : Expr} {ifs : List Expr} {scope : Scope} {pos : Pos} {it acc : Value} {env : Env} : A.over (.compLoop (.GeneratorExp elt [⟨tg, iter, ifs, 0⟩] scope pos) 0 it acc env) [] = A.deeper env := by
  first
    | rfl
    | (obtain ⟨hd, d, fr, gs, u⟩ := A; simp [Around.over, Around.deeper, marksOver, frameCount, unitsOf, envsOf, guardsOf, pushEnvs, pushGuards, Code.envs, Code.env?, Code.isFrame, Code.guards, Code.isGuard, Code.weight, Code.frames, Code.isCreation, Code.isCaller, Code.cUnits])
theorem over_gen0 {A : Around} {elt tg iter : Expr} {ifs : List Expr} {scope : Scope} {pos : Pos} {it acc : Value} {env : Env} : A.over (.compStart (.GeneratorExp elt [⟨tg, iter, ifs, 0⟩] scope pos) 0 it acc env) [] = A.deeper env := by
  first
    | rfl
    | (obtain ⟨hd, d, fr, gs, u⟩ := A; simp [Around.over, Around.deeper, marksOver, frameCount, unitsOf, envsOf, guardsOf, pushEnvs, pushGuards, Code.envs, Code.env?, Code.isFrame, Code.guards, Code.isGuard, Code.weight, Code.frames, Code.isCreation, Code.isCaller, Code.cUnits])
/-- the context of a generator expression's frame; pn: its own generator object -/
abbrev gxC (X : Cx) (A : Around) (s : Shared) (H : Hp) (cenv : Env) (fp : List Addr) (pn : List (Addr × Obj)) : Cx :=
  { X with A := A.deeper cenv, s_0 := s, H_0 := H, env := cenv, outer := X.stack, stack := cenv :: X.stack, ex := fp, fn := fun _ => false, pn := pn, xe := fun _ _ => False }
structure GenOk (N : List Str) (sc scope : Scope) (own : List (Str × Nat)) : Prop where
  blk : BlkOk N sc scope own
  co : scope.isCoroutine = false
  cell : ∀ y ∈ scope.names, y.2 ≠ .cell
  dot : scope.names.lookup (".0" : Str) = some NameKind.local
section
variable {X : Cx} {pins : List (Addr × Obj)} {σ : L2.St} {H : Hp} {s : Shared}
theorem inv_gens {g' : Array GenState} {t' : Nat} {d' : Drawn} (I : Inv X pins σ H s) (hg : AllBare g') : Inv X pins σ H { s with gens := g', toks := t', drawn := d' } :=
  I.step (h' := s.heap) (g' := g') (d' := d') (ch := []) (fun b hb => absurd hb (by simp)) (fun b o _ _ _ e _ => e) (fun b o _ _ _ e _ => ⟨o.slots, e⟩) (fun b o _ e n => n) (fun b o _ e => ⟨o, e⟩) (fun b xs e => e) (fun b o u e => e)
    (fun b qs e => ⟨#[], by rw [e]; simp⟩) (fun m hn => hn) I.hok hg
theorem gx_start {A : Around} {scope : Scope} {own : List (Str × Nat)} {fp : List Addr} {code : Value} {h5 : Heap} {m0 : Str → Option Value} {g5 : Array GenState} {t5 : Nat} {cenv : Env} (I : Inv X pins σ H s) (ok : GenOk X.N X.env.scope scope own) (hN : X.N.Nodup)
    (hfp : ∀ b ∈ fp, FpOk X pins H b ∧ b < s.heap.objs.size) (hA : A.frames = some X.stack) (hh : A.handled = none) (hce : cenv = genEnv scope (cloFrom X.env.cells scope.names []) s.heap.objs.size code builtinsNs X.env)
    (kp : ∀ b o, s.heap.get? b = some o → h5.get? b = some o) (hn : h5.Ns s.heap.objs.size m0) (hg : AllBare g5) :
    Inv (gxC X A s H cenv fp []) [] (wipe σ (own.map (·.2))) H { s with gens := g5, toks := t5, heap := h5 } := by
  have hfree : ∀ y ∈ scope.names, y.2 = .free → ∃ c, X.env.cells.lookup y.1 = some c := fun y hy e => by
    rcases ok.blk.free y hy e with k | k
    · exact I.ok.has _ (.inl k)
    · exact I.ok.has _ (.inr k)
  have hL : cenv.locals = s.heap.objs.size := by rw [hce]; rfl
  have hcl : cenv.cells = cloFrom X.env.cells scope.names [] := by rw [hce]; rfl
  have hsc : cenv.scope = scope := by rw [hce]; rfl
  have cm : ∀ {y c}, (y, c) ∈ cloFrom X.env.cells scope.names [] → X.env.cells.lookup y = some c ∧ c < s.heap.objs.size := fun {y c} hm => by
    rcases cloFrom_mem hm with hm | ⟨h1, rfl⟩
    · cases hm
    · obtain ⟨c, hc⟩ := hfree _ h1 rfl
      rw [hc]
      obtain ⟨w, z⟩ := I.cell _ _ hc
      exact ⟨rfl, z.lt⟩
  have mem : ∀ {y c}, cenv.cells.lookup y = some c → X.env.cells.lookup y = some c ∧ c < s.heap.objs.size := fun {y c} e => by
    rw [hcl] at e
    exact cm (PySem.mem_of_lookup e)
  have look : ∀ {y}, scope.names.lookup y = some .free → ∃ c, cenv.cells.lookup y = some c ∧ X.env.cells.lookup y = some c := fun {y} hl => by
    have hy : (y, NameKind.free) ∈ scope.names := PySem.mem_of_lookup hl
    obtain ⟨c', e'⟩ := mem_lookup (cloFrom_has (cells := X.env.cells) (acc := []) hy)
    rw [← hcl] at e'
    exact ⟨c', e', (mem e').1⟩
  have okB : (gxC X A s H cenv fp []).Ok := by
    refine ⟨I.ok.mod, by show cenv.scope.kind = _; rw [hsc]; exact ok.blk.kind, by show cenv.globals = _; rw [hce]; exact I.ok.glob, by show cenv.builtins = _; rw [hce]; rfl, by show s.heap.objs.size ≤ cenv.locals; rw [hL]; exact Nat.le_refl _,
      fun y z c e1 e2 => I.ok.inj y z c (mem e1).1 (mem e2).1, fun y hy => ?_, fun y c z e => absurd z (by simp), fun _ => hh, Around.frames_deeper hA, .inr ⟨rfl, by show cenv.frame = some cenv.locals; rw [hce]; rfl⟩, fun b hb => ⟨?_, fun y c e z => ?_⟩, I.bs, Nat.le_trans I.ok.bsz I.sz, fun b o e hb => ?_, fun b hb z => ?_, I.stack, I.stkFree⟩
    · have hy : cenv.scope.names.lookup y = some .cell ∨ cenv.scope.names.lookup y = some .free := hy
      rw [hsc] at hy
      rcases hy with hy | hy
      · exact absurd rfl (ok.cell _ (PySem.mem_of_lookup hy))
      · obtain ⟨c, h1, _⟩ := look hy
        exact ⟨c, h1⟩
    · show b ≠ cenv.locals
      rw [hL]; exact Nat.ne_of_lt (hfp b hb).2
    · exact (hfp b hb).1.2.2.2.2.1 y c (mem e).1 z
    · rcases (hfp b hb).1.2.2.2.1 with z | z
      · exact I.ok.noex b o e z
      · exact absurd (Nat.lt_of_lt_of_le (Heap.lt_size e) (Nat.le_trans I.ok.bsz z)) (Nat.lt_irrefl _)
    · rcases List.mem_cons.mp (I.stkSub b z) with z | z
      · exact (hfp b hb).1.2.1 z
      · exact (hfp b hb).1.2.2.1 z
  refine ⟨okB, rfl, hg, Un.kept kp, ⟨m0, by show Heap.Ns _ cenv.locals _; rw [hL]; exact hn, fun i y av e1 e2 e3 => ?_⟩, fun y c e => ?_, ?_, fun y c e => ?_, fun p hp => ?_, I.hok.kept kp, by rw [wipe_length]; exact I.len⟩
  · obtain ⟨e2, hne⟩ := wipe_some e2
    have e3 : cenv.scope.names.lookup y = some .local ∨ cenv.scope.names.lookup y = some .cell ∨ cenv.scope.names.lookup y = some .free := e3
    rw [hsc] at e3
    have no : ∀ {k : NameKind}, scope.names.lookup y = some k → (k = .local ∨ k = .cell) → False := fun {k} hk hh => by
      rcases ok.blk.own _ (PySem.mem_of_lookup hk) hh with e' | e'
      · obtain ⟨p, hp, hpy⟩ := List.mem_map.mp e'
        have e3 := ok.blk.ix p hp
        have : p.1 = y := hpy
        rw [this] at e3
        exact hne (List.mem_map.mpr ⟨p, hp, nodup_ix hN e3 e1⟩)
      · exact e' (List.mem_of_getElem? e1)
    have hfr : scope.names.lookup y = some .free := by
      rcases e3 with e3 | e3 | e3
      · exact (no e3 (.inl rfl)).elim
      · exact (no e3 (.inr rfl)).elim
      · exact e3
    obtain ⟨m, _, hl⟩ := I.loc
    have hvis : Vis X.env.scope y := (ok.blk.free _ (PySem.mem_of_lookup hfr) rfl).elim (fun k => .inr (.inl k)) (fun k => .inr (.inr k))
    obtain ⟨w, r, q⟩ := hl i y av e1 e2 hvis
    refine ⟨w, r, .inr ⟨.inr (by show cenv.scope.names.lookup y = _; rw [hsc]; exact hfr), ?_⟩⟩
    obtain ⟨c, h1, h2⟩ := look hfr
    rcases q with ⟨k, _⟩ | ⟨_, c', e', z⟩
    · have k : X.env.scope.names.lookup y = some .local := k
      rcases ok.blk.free _ (PySem.mem_of_lookup hfr) rfl with k' | k' <;> rw [show X.env.scope.names.lookup y = _ from k'] at k <;> cases k
    · rw [h2] at e'; cases e'
      exact ⟨c, h1, z.keeps kp⟩
  · obtain ⟨w, z⟩ := I.cell y c (mem e).1
    exact ⟨w, z.keeps kp⟩
  · show H cenv.locals = none
    rw [hL]; exact I.hok.fresh (Nat.le_refl _)
  · exact I.freeC y c (mem e).1
  · exact absurd (show p ∈ ([] : List (Addr × Obj)) ++ [] from hp) (by simp)
end
end GD
/-! Gp -/
set_option maxHeartbeats 4000000
/-! Gp: a generator expression runs: turn by turn. -/
namespace GD
open PySem PySem.Spec PyProof.Rows L2 GenW
open Sem (wp)
/-- woken again: what is at S may be new, all else stands -/
structure Wk (S : List Addr) (po' : List (Addr × Obj)) (s s' : Shared) : Prop where
  os : s'.os = s.os
  bare : AllBare s'.gens
  keep : ∀ b o, b ∉ S → s.heap.get? b = some o → s'.heap.get? b = some o
  adr : po'.map (·.1) = S
  own : ∀ p ∈ po', s'.heap.get? p.1 = some p.2 ∧ ∀ v, p.2.data ≠ .cell v
theorem inv_wake {Y : Cx} {po po' : List (Addr × Obj)} {σ : L2.St} {H : Hp} {s s' : Shared} {S : List Addr} (I : Inv Y po σ H s) (e : po.map (·.1) = S) (hS : ∀ b ∈ S, Y.s_0.heap.objs.size ≤ b ∧ ∀ q ∈ Y.pn, q.1 ≠ b) (w : Wk S po' s s') : Inv Y po' σ H s' := by
  have at_ : ∀ b ∈ S, ∃ o, s.heap.get? b = some o ∧ H b = none ∧ b ≠ Y.env.locals ∧ b ∉ Y.fs ∧ ∀ v, o.data ≠ .cell v := fun b hb => by
    rw [← e] at hb
    obtain ⟨p, hp, rfl⟩ := List.mem_map.mp hb
    exact ⟨p.2, I.pin p (List.mem_append_right _ hp)⟩
  have I0 : Inv Y [] σ H s := I.pins_of fun p hp => by cases hp
  have nS : ∀ b u, H b = some u → b ∉ S := fun b u q hb => by
    obtain ⟨o, _, h, _⟩ := at_ b hb
    rw [q] at h; cases h
  obtain ⟨hh, g, d, t, o⟩ := s'
  obtain ⟨z1, z2, z3, z4, z5⟩ := w
  have ho : o = s.os := z1
  subst ho
  have J : Inv Y [] σ H { s with heap := hh, gens := g, drawn := d, toks := t } := by
    refine I0.step (g' := g) (t' := t) (d' := d) (ch := S) (fun b hb => ?_)
      (fun b ob _ _ hc q _ => z3 b ob hc q) (fun b ob _ _ hc q _ => ⟨ob.slots, z3 b ob hc q⟩) (fun _ _ _ _ n => n) (fun b ob hc q => ⟨ob, z3 b ob hc q⟩)
      (fun _ _ q => q) (fun _ _ _ q => q) (fun b ps q => ⟨#[], by rw [q]; simp⟩) (fun m hm => ?_) (fun b u q => ?_) z2
    · obtain ⟨ob, h1, h2, h3, h4, h5⟩ := at_ b hb
      refine ⟨.inr (hS b hb).1, h3, fun x c hx hc => ?_, fun p hp => ?_⟩
      · obtain ⟨v, oc, h6, h7⟩ := I.cell x c hx
        rw [hc, h1] at h6
        cases h6
        exact h5 _ h7
      · exact (hS b hb).2 p (by simpa using hp)
    · obtain ⟨ob, es, ep, ho, r⟩ := hm
      refine ⟨ob, es, ep, z3 _ ob (fun hb => ?_) ho, r⟩
      obtain ⟨_, _, _, h3, _⟩ := at_ _ hb
      exact h3 rfl
    · refine (I0.hok b u q).stay (fun c v hc y => z3 c v ?_ y) (fun _ y => y) fun _ _ y => y
      rcases hc with y | y
      · rw [y]; exact nS b u q
      · exact nS c _ y
  refine J.pins_of fun p hp => ?_
  have hb : p.1 ∈ S := by rw [← z4]; exact List.mem_map.mpr ⟨p, hp, rfl⟩
  obtain ⟨_, _, h2, h3, h4, _⟩ := at_ _ hb
  exact ⟨(z5 p hp).1, h2, h3, h4, (z5 p hp).2⟩
/-- what a generator expression's run leans on -/
structure GxP (X : Cx) (A : Around) (s4 : Shared) (H4 : Hp) (cenv : Env) (fp : List Addr) (pn : List (Addr × Obj)) (S : List Addr) (J : It) (tn : Nat → Heap → Prop) (it : Addr) (tg elt : Expr) (g : TG) (te : TE) (σw : L2.St) (vs : List Nat) (ys : List V) (Pv : Hp → Prop) : Prop where
  calm : X.calm = true
  T : Turn X.prog X.w X.K tg J fp it tn
  pg : PG (gxC X A s4 H4 cenv fp pn) tg g
  pe : PE (gxC X A s4 H4 cenv fp pn) elt te
  co : cenv.scope.isCoroutine = false
  go : ∀ j H, j < ys.length → Pv H → J.go j H
  stop : ∀ H, Pv H → J.stop ys.length H
  step : ∀ j x y H H', ys[j]? = some y → Pv H → J.yld j H x H' → g x σw H' fun σ2 H2 => (wipe σ2 vs = σw) ∧ te σ2 H2 fun z H3 => z = y ∧ Pv H3
  S_new : ∀ b ∈ S, s4.heap.objs.size ≤ b ∧ b ∉ fp ∧ ∀ q ∈ pn, q.1 ≠ b
  fpn : ∀ b ∈ fp, ∀ q ∈ pn, q.1 ≠ b
section
variable {X : Cx} {A : Around} {s4 : Shared} {H4 : Hp} {cenv : Env} {fp : List Addr} {pn : List (Addr × Obj)} {S : List Addr} {J : It} {tn : Nat → Heap → Prop} {it : Addr} {tg elt iter : Expr} {scope : Scope} {pos : Pos} {g : TG} {te : TE} {σw : L2.St} {vs : List Nat} {ys : List V} {Pv : Hp → Prop}
def GInv (X : Cx) (A : Around) (s4 : Shared) (H4 : Hp) (cenv : Env) (fp : List Addr) (pn : List (Addr × Obj)) (tn : Nat → Heap → Prop) (σw : L2.St) (Pv : Hp → Prop) (j : Nat) (po : List (Addr × Obj)) (s : Shared) : Prop :=
  ∃ H', Inv (gxC X A s4 H4 cenv fp pn) po σw H' s ∧ tn j s.heap ∧ (∀ b ∈ fp, H' b = none) ∧ Pv H'
def SameS (S : List Addr) (s s' : Shared) : Prop := ∀ b ∈ S, s'.heap.get? b = s.heap.get? b
def GYp (X : Cx) (A : Around) (s4 : Shared) (H4 : Hp) (cenv : Env) (fp : List Addr) (pn : List (Addr × Obj)) (S : List Addr) (tn : Nat → Heap → Prop) (σw : L2.St) (ys : List V) (Pv : Hp → Prop) : Protocol := fun m s₀ v s kap =>
  ∃ y po, ys[ys.length - 1 - m]? = some y ∧ RelV y v ∧ po.map (·.1) = S ∧ SameS S s₀ s ∧ GInv X A s4 H4 cenv fp pn tn σw Pv (ys.length - m) po s ∧ ∀ po' s'', Wk S po' s s'' → kap (.send .none) s''
def GRp (X : Cx) (A : Around) (s4 : Shared) (H4 : Hp) (cenv : Env) (fp : List Addr) (pn : List (Addr × Obj)) (S : List Addr) (σw : L2.St) (Pv : Hp → Prop) : Nat → Shared → Shared → Prop := fun n s₀ s =>
  n = 0 ∧ ∃ po H', po.map (·.1) = S ∧ SameS S s₀ s ∧ Inv (gxC X A s4 H4 cenv fp pn) po σw H' s ∧ Pv H'
theorem gx_seg (p : GxP X A s4 H4 cenv fp pn S J tn it tg elt g te σw vs ys Pv) : ∀ (k j : Nat) (po : List (Addr × Obj)) (s₀ s : Shared), ys.length - j = k → j ≤ ys.length → po.map (·.1) = S → SameS S s₀ s → GInv X A s4 H4 cenv fp pn tn σw Pv j po s →
    Seg (model X.prog X.w) A (fun n s₀ r s₁ => r = .ok .next ∧ GRp X A s4 H4 cenv fp pn S σw Pv n s₀ s₁) (GYp X A s4 H4 cenv fp pn S tn σw ys Pv) (ys.length - j) s₀
      (.compLoop (.GeneratorExp elt [⟨tg, iter, [], 0⟩] scope pos) 0 (.ref it) .none cenv)
      ((model X.prog X.w).den (.compLoop (.GeneratorExp elt [⟨tg, iter, [], 0⟩] scope pos) 0 (.ref it) .none cenv)) [] s := by
  have stat : ∀ {po : List (Addr × Obj)} {σ' : L2.St} {H' : Hp} {s' : Shared}, po.map (·.1) = S → Inv (gxC X A s4 H4 cenv fp pn) po σ' H' s' → (∀ b ∈ fp, H' b = none) → ∀ b ∈ fp, FpOk (gxC X A s4 H4 cenv fp pn) po H' b := fun {po σ' H' s'} e I' hn b hb =>
    ⟨hn b hb, (I'.ok.exf b hb).1, I'.ok.exfs b hb, .inl hb, fun x c e => (I'.ok.exf b hb).2 x c e, fun q hq z => by
      rcases List.mem_append.mp hq with hq | hq
      · exact p.fpn b hb q hq z
      · have : q.1 ∈ S := by rw [← e]; exact List.mem_map.mpr ⟨q, hq, rfl⟩
        exact (p.S_new _ this).2.1 (z ▸ hb)⟩
  have same : ∀ {po : List (Addr × Obj)} {σ' σ2 : L2.St} {H' H2 : Hp} {s' s2 : Shared} , po.map (·.1) = S → Inv (gxC X A s4 H4 cenv fp pn) po σ' H' s' → Inv (gxC X A s4 H4 cenv fp pn) po σ2 H2 s2 → SameS S s' s2 := fun {po σ' σ2 H' H2 s' s2} e I1 I2 b hb => by
    rw [← e] at hb
    obtain ⟨q, hq, rfl⟩ := List.mem_map.mp hb
    rw [(I1.pin q (List.mem_append_right _ hq)).1, (I2.pin q (List.mem_append_right _ hq)).1]
  intro k
  induction k with
  | zero =>
    intro j po s₀ s hk hj hpo hsm hI
    obtain ⟨H', I, st, fn, pv⟩ := hI
    have hin : j = ys.length := by omega
    subst hin
    show Seg _ A _ _ _ s₀ _ ((compTurn (.GeneratorExp elt [⟨tg, iter, [], 0⟩] scope pos) 0 (.ref it) .none cenv).onRaise (leaving cenv)) [] s
    rw [compTurn_gen, Sem.onRaise_eq_wrap]
    refine seg_bind_wrap (wpAny_standAt ?_)
    refine seg_bind_wrap ?_
    rw [over_gen]
    refine thnF (p.T.done (gxC X A s4 H4 cenv fp pn) rfl rfl rfl p.calm _ po s σw H' (fun _ _ => False) I (stat hpo I fn) st (p.stop H' pv)) fun r s1 ⟨hr, I1⟩ => ?_
    subst hr
    refine seg_end (.ok .next) ⟨rfl, Nat.sub_self _, po, H', hpo, fun b hb => (same hpo I I1 b hb).trans (hsm b hb), I1, pv⟩
  | succ k ih =>
    intro j po s₀ s hk hj hpo hsm hI
    obtain ⟨H', I, st, fn, pv⟩ := hI
    have hlt : j < ys.length := by omega
    show Seg _ A _ _ _ s₀ _ ((compTurn (.GeneratorExp elt [⟨tg, iter, [], 0⟩] scope pos) 0 (.ref it) .none cenv).onRaise (leaving cenv)) [] s
    rw [compTurn_gen, Sem.onRaise_eq_wrap]
    refine seg_bind_wrap (wpAny_standAt ?_)
    refine seg_bind_wrap ?_
    rw [over_gen]
    refine thnF (p.T.item (gxC X A s4 H4 cenv fp pn) rfl rfl rfl p.calm j po s σw H' (fun _ _ => False) I (stat hpo I fn) st (p.go j H' hlt pv)) fun r s1 ⟨u, hr, h1⟩ => ?_
    subst hr
    refine seg_bind_wrap ?_
    rw [over_gen]
    refine thnF h1 fun _ s2 ⟨x, H2, I2, r2, y2, st2, fn2⟩ => ?_
    have I2' := I2.pinned (stat hpo I2 fn2) (p.T.obj _ _ st2)
    refine seg_bind_wrap ?_
    rw [over_gen]
    refine thnF (p.pg.run _ s2 σw H2 x u _ I2' r2 (p.step j x ys[j] H' H2 (List.getElem?_eq_getElem hlt) pv y2)) fun _ s3 ⟨σ3, H3, I3, hw, q3⟩ => ?_
    simp only [List.forIn_nil]
    refine seg_bind_wrap (wpAny_pure ?_)
    simp only [if_true]
    have hy : ∀ v, yieldOut cenv v = yieldValue v := fun v => by simp only [yieldOut, p.co, Bool.false_eq_true, if_false]
    simp only [hy]
    rw [Sem.bind_eq_wrap', Sem.bind_eq_wrap', Sem.wrap_wrap, Sem.wrap_wrap]
    refine seg_wrap ?_
    rw [over_gen]
    refine thnF (p.pe.run _ s3 σ3 H3 _ I3 q3) fun v s5 ⟨z, H5, I5, r5, hz, pv5⟩ => ?_
    subst hz
    obtain ⟨m, hm⟩ : ∃ m, ys.length - j = m + 1 := ⟨ys.length - j - 1, by omega⟩
    have hl : (wipe σ3 vs).length = σ3.length := wipe_length _ _
    have pin' : ∀ b ∈ fp, ∀ o, s2.heap.get? b = some o → s5.heap.get? b = some o ∧ H5 b = none := fun b hb o e =>
      let z := I5.pin (b, o) (List.mem_append_right _ (List.mem_append_right _ (mem_pinsAt hb e)))
      ⟨z.1, z.2.1⟩
    have I6 : Inv (gxC X A s4 H4 cenv fp pn) po σw H5 s5 := by
      rw [← hw]
      exact (I5.unpinned).weak hl fun i v e => (wipe_some e).1
    have st6 : tn (j + 1) s5.heap := p.T.keep _ _ _ st2 fun b hb o e => (pin' b hb o e).1
    have fn6 : ∀ b ∈ fp, H5 b = none := fun b hb => by
      obtain ⟨o, e, _⟩ := p.T.obj _ _ st2 b hb
      exact (pin' b hb o e).2
    rw [hm]
    have e1 : ys.length - 1 - m = j := by omega
    have e2 : ys.length - m = j + 1 := by omega
    refine seg_at (seg_yield rfl rfl rfl ⟨ys[j], po, by rw [e1]; exact List.getElem?_eq_getElem hlt, r5, hpo, fun b hb => (same hpo I I6 b hb).trans (hsm b hb), by rw [e2]; exact ⟨H5, I6, st6, fn6, pv5⟩, fun po' s'' wk => ?_⟩)
    have I7 : Inv (gxC X A s4 H4 cenv fp pn) po' σw H5 s'' := inv_wake I6 hpo (fun b hb => ⟨(p.S_new b hb).1, (p.S_new b hb).2.2⟩) wk
    have st7 : tn (j + 1) s''.heap := p.T.keep _ _ _ st6 fun b hb o e => wk.keep b o (fun hs => (p.S_new b hs).2.1 hb) e
    have e3 : m = ys.length - (j + 1) := by omega
    rw [e3]
    exact seg_again rfl (ih (j + 1) po' s'' s'' (by omega) hlt wk.adr (fun b hb => rfl) ⟨H5, I7, st7, fn6, pv5⟩)
theorem gx_seg0 (p : GxP X A s4 H4 cenv fp pn S J tn it tg elt g te σw vs ys Pv) {po : List (Addr × Obj)} {s₀ s : Shared} (hpo : po.map (·.1) = S) (hs : SameS S s₀ s) (hI : GInv X A s4 H4 cenv fp pn tn σw Pv 0 po s) :
    Seg (model X.prog X.w) A (fun n s₀ r s₁ => r = .ok .next ∧ GRp X A s4 H4 cenv fp pn S σw Pv n s₀ s₁) (GYp X A s4 H4 cenv fp pn S tn σw ys Pv) ys.length s₀
      (.compStart (.GeneratorExp elt [⟨tg, iter, [], 0⟩] scope pos) 0 (.ref it) .none cenv)
      ((model X.prog X.w).den (.compStart (.GeneratorExp elt [⟨tg, iter, [], 0⟩] scope pos) 0 (.ref it) .none cenv)) [] s := by
  have loop := gx_seg (iter := iter) (scope := scope) (pos := pos) p ys.length 0 po s₀ s (Nat.sub_zero _) (Nat.zero_le _) hpo hs hI
  obtain ⟨H', I, st, fn, pv⟩ := hI
  show Seg _ A _ _ _ s₀ _ ((compStart (.GeneratorExp elt [⟨tg, iter, [], 0⟩] scope pos) 0 (.ref it) .none cenv).onRaise (leaving cenv)) [] s
  unfold compStart
  rw [Sem.onRaise_eq_wrap]
  show Seg _ A _ _ _ s₀ _ ((ask >>= _).wrap _ _ _ _) [] s
  refine seg_bind_wrap (wpAny_askSetting ?_)
  split
  · exact seg_again rfl loop
  · first
      | exact seg_bind_wrap (wpAny_rule (seg_bind_wrap (wpAny_standAt (seg_bind_wrap (p.T.self _ 0 s _ _ st (seg_again rfl loop))))))
      | (refine seg_bind_wrap (wpAny_rule ?_); show Seg _ A _ _ _ s₀ _ ((standAt iter.pos >>= _).wrap _ _ _ _) [] s; exact seg_bind_wrap (wpAny_standAt (seg_bind_wrap (p.T.self _ 0 s _ _ st (seg_again rfl loop)))))
end
end GD
/-! Gq -/
set_option maxHeartbeats 4000000
/-! Gq: a generator expression is made, asked, drained. -/
namespace GD
open PySem PySem.Spec PyProof.Rows L2 GenW
open Sem (wp)
section
variable {X : Cx} {A0 : Around} {s4 : Shared} {H4 : Hp} {cenv : Env} {fp : List Addr} {pn : List (Addr × Obj)} {S : List Addr} {J : It} {tn : Nat → Heap → Prop} {it : Addr} {tg elt iter : Expr} {scope : Scope} {pos : Pos} {g : TG} {te : TE} {σw σ : L2.St} {vs : List Nat} {ys : List V} {Pv : Hp → Prop}
  {a : Addr} {gi : Nat} {oa : Obj} {pins : List (Addr × Obj)}
/-- the generator stands at its j-th turn -/
def GReady (X : Cx) (A : Around) (s4 : Shared) (H4 : Hp) (cenv : Env) (fp : List Addr) (pn : List (Addr × Obj)) (S : List Addr) (tn : Nat → Heap → Prop) (σw : L2.St) (ys : List V) (Pv : Hp → Prop) (a : Addr) (gi : Nat) (j : Nat) (s : Shared) : Prop :=
  s.heap.IsGen a gi ∧ s.heap.NoLimit ∧ AllBare s.gens ∧ ∃ gs, s.gens[gi]? = some gs ∧ gs.Goes (model X.prog X.w) A (fun n s₀ r s₁ => r = .ok .next ∧ GRp X A s4 H4 cenv fp pn S σw Pv n s₀ s₁) (GYp X A s4 H4 cenv fp pn S tn σw ys Pv) (ys.length - j) (.send .none) (s.setGen gi .running)
/-- between two turns: only what is at S changes -/
structure Bw (S : List Addr) (po' : List (Addr × Obj)) (s s' : Shared) : Prop where
  os : s'.os = s.os
  gens : s'.gens = s.gens
  keep : ∀ b o, b ∉ S → s.heap.get? b = some o → s'.heap.get? b = some o
  adr : po'.map (·.1) = S
  own : ∀ p ∈ po', s'.heap.get? p.1 = some p.2 ∧ ∀ v, p.2.data ≠ .cell v
theorem fin_of {A : Around} {po : List (Addr × Obj)} {H' : Hp} {s1 : Shared} (I4 : Inv X pins σ H4 s4) (hfp : ∀ b ∈ fp, FpOk X pins H4 b) (I : Inv (gxC X A s4 H4 cenv fp pn) po σw H' s1) : Inv X pins σ H' s1 :=
  I4.call' (ch := fp) I.os I.base I.hok I.bare fun b hb => ⟨(hfp b hb).2.2.2.1, (hfp b hb).2.1, (hfp b hb).2.2.2.2.1, (hfp b hb).2.2.2.2.2⟩
theorem gx_next (p : GxP X A0.in1 s4 H4 cenv fp pn S J tn it tg elt g te σw vs ys Pv) (hpn : pn = [(a, oa)]) (hoa : ∀ h : Heap, h.get? a = some oa → h.IsGen a gi) (hh : A0.handled = none) (hd : A0.depth < recursionLimit) (hc : cStatics ∉ S) (I4 : Inv X pins σ H4 s4) (hfp : ∀ b ∈ fp, FpOk X pins H4 b)
    {j : Nat} {s : Shared} {Q : Option Value → Shared → Prop} {E : Value → Shared → Prop} (hj : j < ys.length) (R : GReady X A0.in1 s4 H4 cenv fp pn S tn σw ys Pv a gi j s)
    (hQ : ∀ y v s1 H', ys[j]? = some y → RelV y v → SameS S s s1 → Inv X pins σ H' s1 → Pv H' → (∀ po' s2, Bw S po' s1 s2 → GReady X A0.in1 s4 H4 cenv fp pn S tn σw ys Pv a gi (j + 1) s2) → Q (some v) s1) :
    wpAny (model X.prog X.w) A0 (pyNext (.ref a)) Q E s := by
  obtain ⟨hg, hl, hb, gs, hgs, hgoes⟩ := R
  obtain ⟨m, hm⟩ : ∃ m, ys.length - j = m + 1 := ⟨ys.length - j - 1, by omega⟩
  rw [hm] at hgoes
  have hgl : gi < s.gens.size := (Array.getElem?_eq_some_iff.mp hgs).1
  refine wpAny_gsz (n := gi + 1) hgl (wpAny_pyNext_genexpQ (P := GRp X A0.in1 s4 H4 cenv fp pn S σw Pv) hh hl hd hg hgs hgoes (fun v s₁ gs' hbare hv => ?_) (fun s₁ hp h' hk => ?_))
  · obtain ⟨y, po, hy, rv, hpo, hsm, ⟨H', I, st, fn, pv⟩, kap⟩ := hv
    intro hsz
    have e1 : ys.length - 1 - (m + 1 - 1) = j := by omega
    rw [e1] at hy
    have hb1 : AllBare (s₁.setGen gi gs').gens := allBare_setGen I.bare hbare
    have I1 : Inv X pins σ H' (s₁.setGen gi gs') := inv_gens (t' := s₁.toks) (d' := s₁.drawn) (fin_of I4 hfp I) hb1
    refine hQ y v (s₁.setGen gi gs') H' hy rv hsm I1 pv fun po' s2 bw => ?_
    have ha : s₁.heap.get? a = some oa := (I.pin (a, oa) (List.mem_append_left _ (by rw [hpn]; exact List.mem_cons_self))).1
    have haS : a ∉ S := fun hs => (p.S_new a hs).2.2 (a, oa) (by rw [hpn]; exact List.mem_cons_self) rfl
    have ha2 : s2.heap.get? a = some oa := bw.keep a oa haS ha
    have hsz1 : gi < s₁.gens.size := by
      have q : (s₁.setGen gi gs').gens.size = s₁.gens.size := setGen_size _ _ _
      have : gi + 1 ≤ (s₁.setGen gi gs').gens.size := hsz
      omega
    refine ⟨?_, ?_, ?_, gs', ?_, ?_⟩
    · exact hoa _ ha2
    · obtain ⟨mc, hns, hnn⟩ := I1.nolimit
      exact ⟨mc, hns.at' fun o e => bw.keep _ o hc e, hnn⟩
    · rw [bw.gens]; exact hb1
    · rw [bw.gens]; exact setGen_at hsz1
    · have e2 : ys.length - (j + 1) = m := by omega
      rw [e2]
      refine kap po' _ ⟨?_, ?_, ?_, bw.adr, bw.own⟩
      · exact bw.os
      · refine allBare_setGen ?_ rfl
        rw [bw.gens]; exact hb1
      · exact bw.keep
  · exact absurd hp.1 (Nat.succ_ne_zero m)
theorem gx_done (hh : A0.handled = none) (hd : A0.depth < recursionLimit) (I4 : Inv X pins σ H4 s4) (hfp : ∀ b ∈ fp, FpOk X pins H4 b)
    {s : Shared} {Q : Option Value → Shared → Prop} {E : Value → Shared → Prop} (R : GReady X A0.in1 s4 H4 cenv fp pn S tn σw ys Pv a gi ys.length s)
    (hQ : ∀ s1 H', SameS S s s1 → Inv X pins σ H' s1 → Pv H' → Q none s1) :
    wpAny (model X.prog X.w) A0 (pyNext (.ref a)) Q E s := by
  obtain ⟨hg, hl, hb, gs, hgs, hgoes⟩ := R
  rw [Nat.sub_self] at hgoes
  refine wpAny_pyNext_genexpQ (P := GRp X A0.in1 s4 H4 cenv fp pn S σw Pv) hh hl hd hg hgs hgoes (fun v s₁ gs' hbare hv => ?_) (fun s₁ hp h' hk => ?_)
  · obtain ⟨y, po, hy, rv, hpo, hsm, ⟨H', I, st, fn, pv⟩, kap⟩ := hv
    exact False.elim (kap po s₁ ⟨rfl, I.bare, fun _ _ _ e => e, hpo, fun q hq => ⟨(I.pin q (List.mem_append_right _ hq)).1, (I.pin q (List.mem_append_right _ hq)).2.2.2.2⟩⟩)
  · obtain ⟨_, po, H', hpo, hsm, I, pv⟩ := hp
    have I1 : Inv X pins σ H' (s₁.setGen gi .finished) := inv_gens (t' := s₁.toks) (d' := s₁.drawn) (fin_of I4 hfp I) (allBare_setGen I.bare rfl)
    refine hQ _ H' (fun b hb => ?_) (I1.kept (t' := s₁.toks) hk) pv
    show h'.get? b = s.heap.get? b
    have e2 : s₁.heap.get? b = s.heap.get? b := hsm b hb
    rw [← hpo] at hb
    obtain ⟨q, hq, rfl⟩ := List.mem_map.mp hb
    have e := (I.pin q (List.mem_append_right _ hq)).1
    rw [← e2, e]
    exact hk _ _ e
/-! ### the consumers -/
theorem truthy_b {prog : Program} {w : World} {A : Around} {E : Value → Shared → Prop} {s : Shared} {b : Bool} {Q : Bool → Shared → Prop} (h : Q b s) : wpAny (model prog w) A (truthy (.bool b)) Q E s := wpAny_truthy_bool h
theorem all_loop {R : Result → Shared → Prop} (p : GxP X X.A.in1.in1 s4 H4 cenv fp pn [] J tn it tg elt g te σw vs ys Pv) (hpn : pn = [(a, oa)]) (hoa : ∀ h : Heap, h.get? a = some oa → h.IsGen a gi) (hh : X.A.handled = none) (hd : X.A.depth < recursionLimit) (I4 : Inv X pins σ H4 s4) (hfp : ∀ b ∈ fp, FpOk X pins H4 b)
    {bs : List Bool} (hys : ys = bs.map V.bl) : ∀ (k j : Nat) (s : Shared), ys.length - j = k → j ≤ ys.length → GReady X X.A.in1.in1 s4 H4 cenv fp pn [] tn σw ys Pv a gi j s →
    (∀ s' H', Inv X pins σ H' s' → Pv H' → R (.ok (.ret (.bool ((bs.drop j).all id)))) s') → codeAny (model X.prog X.w) X.A (.builtin "all.loop" ⟨[.ref a], []⟩) R s := by
  intro k
  induction k with
  | zero =>
    intro j s hk hj hst hR
    have hjn : j = ys.length := by omega
    subst hjn
    refine codeAny_builtin F.entry_all_loop ?_
    rw [Around.under_plainId F.plain_all_loop _]
    show wpAny _ X.A.in1 (pyNext (.ref a) >>= _) _ _ s
    refine wpAny_bind (gx_done (A0 := X.A.in1) hh hd I4 hfp hst fun s1 H' _ I1 pv => ?_)
    refine wpAny_bind (wpAny_rule (wpAny_pure ?_))
    have := hR s1 H' I1 pv
    rw [List.drop_of_length_le (by simp [hys])] at this
    exact this
  | succ k ih =>
    intro j s hk hj hst hR
    have hlt : j < ys.length := by omega
    have hlt2 : j < bs.length := by rw [hys, List.length_map] at hlt; exact hlt
    refine codeAny_builtin F.entry_all_loop ?_
    rw [Around.under_plainId F.plain_all_loop _]
    show wpAny _ X.A.in1 (pyNext (.ref a) >>= _) _ _ s
    refine wpAny_bind (gx_next (A0 := X.A.in1) p hpn hoa hh hd (by simp) I4 hfp hlt hst fun y v s1 H' hy rv _ I1 pv nx => ?_)
    have hy2 : y = V.bl bs[j] := by
      rw [hys, List.getElem?_map, List.getElem?_eq_getElem hlt2] at hy
      exact (Option.some.inj hy).symm
    subst hy2
    obtain rfl : v = Value.bool bs[j] := rv
    refine wpAny_bind (wpAny_holding (truthy_b ?_))
    refine wpAny_bind (wpAny_letGo ?_)
    have hdr : bs.drop j = bs[j] :: bs.drop (j + 1) := List.drop_eq_getElem_cons hlt2
    cases hb : bs[j] with
    | true =>
      simp only [if_true]
      refine wpAny_pure ⟨plainId_quiet F.plain_all_loop _, ih (j + 1) _ (by omega) hlt (nx [] s1 ⟨rfl, rfl, fun _ _ _ e => e, rfl, fun q hq => by cases hq⟩) fun s'' H'' I'' pv'' => ?_⟩
      have := hR s'' H'' I'' pv''
      rw [hdr, List.all_cons, hb] at this
      exact this
    | false =>
      simp only [Bool.false_eq_true, if_false]
      refine wpAny_bind (wpAny_rule (wpAny_pure ?_))
      have := hR s1 H' I1 pv
      rw [hdr, List.all_cons, hb] at this
      exact this
theorem any_loop {R : Result → Shared → Prop} (p : GxP X X.A.in1.in1 s4 H4 cenv fp pn [] J tn it tg elt g te σw vs ys Pv) (hpn : pn = [(a, oa)]) (hoa : ∀ h : Heap, h.get? a = some oa → h.IsGen a gi) (hh : X.A.handled = none) (hd : X.A.depth < recursionLimit) (I4 : Inv X pins σ H4 s4) (hfp : ∀ b ∈ fp, FpOk X pins H4 b)
    {bs : List Bool} (hys : ys = bs.map V.bl) : ∀ (k j : Nat) (s : Shared), ys.length - j = k → j ≤ ys.length → GReady X X.A.in1.in1 s4 H4 cenv fp pn [] tn σw ys Pv a gi j s →
    (∀ s' H', Inv X pins σ H' s' → Pv H' → R (.ok (.ret (.bool ((bs.drop j).any id)))) s') → codeAny (model X.prog X.w) X.A (.builtin "any.loop" ⟨[.ref a], []⟩) R s := by
  intro k
  induction k with
  | zero =>
    intro j s hk hj hst hR
    have hjn : j = ys.length := by omega
    subst hjn
    refine codeAny_builtin F.entry_any_loop ?_
    rw [Around.under_plainId F.plain_any_loop _]
    show wpAny _ X.A.in1 (pyNext (.ref a) >>= _) _ _ s
    refine wpAny_bind (gx_done (A0 := X.A.in1) hh hd I4 hfp hst fun s1 H' _ I1 pv => ?_)
    refine wpAny_bind (wpAny_rule (wpAny_pure ?_))
    have := hR s1 H' I1 pv
    rw [List.drop_of_length_le (by simp [hys])] at this
    exact this
  | succ k ih =>
    intro j s hk hj hst hR
    have hlt : j < ys.length := by omega
    have hlt2 : j < bs.length := by rw [hys, List.length_map] at hlt; exact hlt
    refine codeAny_builtin F.entry_any_loop ?_
    rw [Around.under_plainId F.plain_any_loop _]
    show wpAny _ X.A.in1 (pyNext (.ref a) >>= _) _ _ s
    refine wpAny_bind (gx_next (A0 := X.A.in1) p hpn hoa hh hd (by simp) I4 hfp hlt hst fun y v s1 H' hy rv _ I1 pv nx => ?_)
    have hy2 : y = V.bl bs[j] := by
      rw [hys, List.getElem?_map, List.getElem?_eq_getElem hlt2] at hy
      exact (Option.some.inj hy).symm
    subst hy2
    obtain rfl : v = Value.bool bs[j] := rv
    refine wpAny_bind (wpAny_holding (truthy_b ?_))
    refine wpAny_bind (wpAny_letGo ?_)
    have hdr : bs.drop j = bs[j] :: bs.drop (j + 1) := List.drop_eq_getElem_cons hlt2
    cases hb : bs[j] with
    | false =>
      simp only [Bool.false_eq_true, if_false]
      refine wpAny_pure ⟨plainId_quiet F.plain_any_loop _, ih (j + 1) _ (by omega) hlt (nx [] s1 ⟨rfl, rfl, fun _ _ _ e => e, rfl, fun q hq => by cases hq⟩) fun s'' H'' I'' pv'' => ?_⟩
      have := hR s'' H'' I'' pv''
      rw [hdr, List.any_cons, hb] at this
      exact this
    | true =>
      simp only [if_true]
      refine wpAny_bind (wpAny_rule (wpAny_pure ?_))
      have := hR s1 H' I1 pv
      rw [hdr, List.any_cons, hb] at this
      exact this
def fitI (i : Int) : Bool := decide (-(2 ^ 63) ≤ i) && decide (i < 2 ^ 63)
def sumOk : Int → List Int → Bool
  | _, [] => true
  | acc, i :: is => fitI i && fitI (acc + i) && sumOk (acc + i) is
abbrev sumO (acc : Int) (t : Tok) (c : Nat) : Obj := { cls := .type "list", dict := none, data := .seq #[.int acc t] c, slots := #[] }
theorem sum_loop {R : Result → Shared → Prop} {S0 : Addr} (p : GxP X X.A.in1.in1 s4 H4 cenv fp pn [S0] J tn it tg elt g te σw vs ys Pv) (hpn : pn = [(a, oa)]) (hoa : ∀ h : Heap, h.get? a = some oa → h.IsGen a gi) (hh : X.A.handled = none) (hd : X.A.depth < recursionLimit) (hc : cStatics ≠ S0) (I4 : Inv X pins σ H4 s4) (hfp : ∀ b ∈ fp, FpOk X pins H4 b)
    {is : List Int} (hys : ys = is.map V.int) : ∀ (k j : Nat) (s : Shared) (acc : Int) (tA : Tok) (c : Nat), ys.length - j = k → j ≤ ys.length → GReady X X.A.in1.in1 s4 H4 cenv fp pn [S0] tn σw ys Pv a gi j s → s.heap.get? S0 = some (sumO acc tA c) → sumOk acc (is.drop j) = true →
    (∀ s' H' t', Inv X pins σ H' s' → Pv H' → R (.ok (.ret (.int ((is.drop j).foldl (· + ·) acc) t'))) s') → codeAny (model X.prog X.w) X.A (.builtin "sum.loop" ⟨[.ref a, .ref S0, rawInt 0, rawInt 0], []⟩) R s := by
  intro k
  induction k with
  | zero =>
    intro j s acc tA c hk hj hst hS hok hR
    have hjn : j = ys.length := by omega
    subst hjn
    refine codeAny_builtin F.entry_sum_loop ?_
    rw [Around.under_plainId F.plain_sum_loop _]
    show wpAny _ X.A.in1 (seqItems? (.ref S0) >>= _) _ _ s
    refine wpAny_bind (wpAny_seqItems hS rfl ?_)
    show wpAny _ X.A.in1 (tryCatch (pyNext (.ref a)) _ >>= _) _ _ s
    refine wpAny_bind (wpAny_tryCatch (gx_done (A0 := X.A.in1) hh hd I4 hfp hst fun s1 H' _ I1 pv => ?_))
    have := hR s1 H' tA I1 pv
    rw [List.drop_of_length_le (by simp [hys])] at this
    exact wpAny_pure this
  | succ k ih =>
    intro j s acc tA c hk hj hst hS hok hR
    have hlt : j < ys.length := by omega
    have hlt2 : j < is.length := by rw [hys, List.length_map] at hlt; exact hlt
    have hdr : is.drop j = is[j] :: is.drop (j + 1) := List.drop_eq_getElem_cons hlt2
    rw [hdr] at hok
    simp only [sumOk, Bool.and_eq_true] at hok
    refine codeAny_builtin F.entry_sum_loop ?_
    rw [Around.under_plainId F.plain_sum_loop _]
    show wpAny _ X.A.in1 (seqItems? (.ref S0) >>= _) _ _ s
    refine wpAny_bind (wpAny_seqItems hS rfl ?_)
    show wpAny _ X.A.in1 (tryCatch (pyNext (.ref a)) _ >>= _) _ _ s
    refine wpAny_bind (wpAny_tryCatch (gx_next (A0 := X.A.in1) p hpn hoa hh hd (by simpa using hc) I4 hfp hlt hst fun y v s1 H' hy rv sm I1 pv nx => ?_))
    have hy2 : y = V.int is[j] := by
      rw [hys, List.getElem?_map, List.getElem?_eq_getElem hlt2] at hy
      exact (Option.some.inj hy).symm
    subst hy2
    obtain ⟨t, rfl⟩ : ∃ t, v = Value.int is[j] t := rv
    have hS' : s1.heap.get? S0 = some (sumO acc tA c) := (sm S0 List.mem_cons_self).trans hS
    have hcc : ((decide (-(2 ^ 63) ≤ is[j]) && decide (is[j] < 2 ^ 63)) && (decide (-(2 ^ 63) ≤ acc + is[j]) && decide (acc + is[j] < 2 ^ 63))) = true := by
      have h1 := hok.1.1
      have h2 := hok.1.2
      unfold fitI at h1 h2
      rw [Bool.and_eq_true] at h1 h2
      simp only [Bool.and_eq_true]
      exact ⟨h1, h2⟩
    show wpAny _ X.A.in1 (if (_ : Bool) = true then (mkInt (acc + is[j]) >>= _) else _) _ _ _
    split
    · refine wpAny_bind (wpAny_mkInt ?_)
      show wpAny _ X.A.in1 (updateSeq S0 (fun _ => #[.int (acc + is[j]) s1.toks]) >>= _) _ _ _
      refine wpAny_bind ?_
      refine wpAny_updateSeq hS' rfl (wpAny_pure ⟨plainId_quiet F.plain_sum_loop _, ih (j + 1) _ (acc + is[j]) s1.toks _ (by omega) hlt ?_ (Heap.get?_update_self _ hS' rfl) hok.2 fun s'' H'' t'' I'' pv'' => ?_⟩)
      · obtain ⟨ob, hob, hnc⟩ : ∃ ob, (s1.heap.update S0 (Obj.mapSeq fun _ => #[Value.int (acc + is[j]) s1.toks])).get? S0 = some ob ∧ ∀ v, ob.data ≠ .cell v := ⟨_, Heap.get?_update_self _ hS' rfl, fun v z => by cases z⟩
        refine nx [(S0, ob)] _ ⟨rfl, rfl, fun b o hb e => ?_, rfl, fun q hq => ?_⟩
        · exact (Heap.get?_update_other _ _ (fun h : S0 = b => hb (by rw [h]; exact List.mem_cons_self))).trans e
        · rw [List.mem_singleton.mp hq]
          exact ⟨hob, hnc⟩
      · have := hR s'' H'' t'' I'' pv''
        rw [hdr, List.foldl_cons] at this
        exact this
    · rename_i hneg
      exact absurd hcc hneg
end
end GD
/-! Gr -/
set_option maxHeartbeats 4000000
/-! Gr: all, any, sum of a generator expression. -/
namespace GD
open PySem PySem.Spec PyProof.Rows L2 GenW
open Sem (wp)
section
variable {X : Cx} {A : Around} {s4 : Shared} {H4 : Hp} {cenv : Env} {fp : List Addr} {tg elt iter : Expr} {scope : Scope} {σw σ : L2.St} {a : Addr} {oa : Obj} {pins : List (Addr × Obj)}
theorem gx_pn {H : Hp} {s : Shared} (I : Inv (gxC X A s4 H4 cenv fp []) [] σw H s) (h : s.heap.get? a = some oa ∧ H a = none ∧ a ≠ cenv.locals ∧ a ∉ frs X.stack ∧ ∀ v, oa.data ≠ .cell v) : Inv (gxC X A s4 H4 cenv fp [(a, oa)]) [] σw H s :=
  ⟨⟨I.ok.mod, I.ok.kind, I.ok.glob, I.ok.blt, I.ok.above, I.ok.inj, I.ok.has, I.ok.cab, I.ok.hd, I.ok.frames, I.ok.stk, I.ok.exf, I.ok.bs, I.ok.bsz, I.ok.noex, I.ok.exfs, I.ok.funs, I.ok.frf⟩, I.os, I.bare, I.base, I.loc, I.cell, I.free, I.freeC, fun p hp => by
    have : p = (a, oa) := by simpa using hp
    subst this
    exact h, I.hok, I.len⟩
/-- a generator expression made -/
theorem gx_make {k : Nat} {c P : Addr} {own : List (Str × Nat)} {gpos : Pos} {wi : TI} {H : Hp} {s : Shared} {Q' : Value → Shared → Prop} {R : It → Hp → Prop} (hr : Room k X.A) (TB : GxR.TabB X.base X.mg c P) (hcode : X.env.code = .ref c) (ok : GenOk X.N X.env.scope scope own) (hN : X.N.Nodup)
    (hi : PI X tg iter wi) (hs : ∀ v, genFold iter X.env v = pure v) (I : Inv X pins σ H s) (h : wi σ H fun J H1 => GxR.TabG H1 P ∧ R J H1)
    (hQ : ∀ (J : It) (H1 H4 : Hp) (s4 s5 : Shared) (code : Value) (fp : List Addr) (tn : Nat → Heap → Prop) (it a : Addr) (gi : Nat) (oa : Obj), R J H1 → GxR.Tabbed P H1 H4 → Inv X pins σ H4 s4 → Turn X.prog X.w X.K tg J fp it tn → tn 0 s5.heap → (∀ b ∈ fp, FpOk X pins H4 b ∧ b < s4.heap.objs.size) →
      (∀ A : Around, A.frames = some X.stack → A.handled = none → Inv (gxC X A s4 H4 (genEnv scope (cloFrom X.env.cells scope.names []) s4.heap.objs.size code builtinsNs X.env) fp []) [] (wipe σ (own.map (·.2))) H4 s5) →
      s5.heap.get? a = some oa → (∀ h : Heap, h.get? a = some oa → h.IsGen a gi) → (∀ v, oa.data ≠ .cell v) →
      s5.gens[gi]? = some (.fresh (.compStart (.GeneratorExp elt [⟨tg, iter, [], 0⟩] scope gpos) 0 (.ref it) .none (genEnv scope (cloFrom X.env.cells scope.names []) s4.heap.objs.size code builtinsNs X.env))) →
      s4.heap.objs.size < a → a < s5.heap.objs.size → Q' (.ref a) s5) :
    wpAny (model X.prog X.w) X.A (eval (.GeneratorExp elt [⟨tg, iter, [], 0⟩] scope gpos) X.env) Q' X.xe s := by
  have hfree : ∀ y ∈ scope.names, y.2 = .free → ∃ c, X.env.cells.lookup y.1 = some c := fun y hy e => by
    rcases ok.blk.free y hy e with k | k
    · exact I.ok.has _ (.inl k)
    · exact I.ok.has _ (.inr k)
  refine wpAny_GeneratorExp_make ok.co (closure_ok hfree) ok.cell ok.dot ok.blk.kind (by have := hr.dp; omega) ?_ hs
  refine thn (hi.run pins s σ H _ I h) fun xv s1 hx => thn hx fun itv s2 h2 => ?_
  obtain ⟨it, fp, tn, J, H2, e, I2, T, st2, f2, ⟨ps, hP, ht⟩, q⟩ := h2
  subst e
  have hPs : s2.heap.get? P = some { cls := .none, data := .fields ps } := I2.hok P _ hP
  have cd : PySem.W.CodeHd s2.heap c P := TB.code.keeps fun b u e => I2.bk b u e
  have nP : ∀ b, H2 b = none → b ≠ P := fun b e z => by rw [z, hP] at e; cases e
  have szf : ∀ b ∈ fp, b < s2.heap.objs.size := fun b hb => by
    obtain ⟨o, e, _⟩ := T.obj _ _ st2 b hb
    exact Heap.lt_size e
  have cont : ∀ (code : Value) (h3 : Heap) (tk : Nat) (ps' : Array Value), Heap.ExtBut P s2.heap h3 → s2.heap.objs.size ≤ h3.objs.size → h3.get? P = some { cls := .none, data := .fields ps' } → (∃ more, ps' = ps ++ more) → TriplesOk ps'.toList →
      wpAny (model X.prog X.w) X.A (builtinsFor X.env.globals X.env.builtins) (fun bi s₄ =>
        ∀ h', h'.Ns s₄.heap.objs.size (fun y => if y = ".0" then some (.ref it) else none) → Heap.SameBut s₄.heap.objs.size (s₄.heap.push { cls := .type "frame", data := .dict #[] }) h' →
          Q' (.ref h'.objs.size) { s₄ with
            gens := s₄.gens.push (.fresh (.compStart (.GeneratorExp elt [⟨tg, iter, [], 0⟩] scope gpos) 0 (.ref it) .none (genEnv scope (cloFrom X.env.cells scope.names []) s₄.heap.objs.size code bi X.env))),
            toks := s₄.toks + 1 + 1 + 1,
            heap := h'.push { cls := .type "generator", data := .fields #[.int s₄.gens.size 0, .str "<genexpr>" (s₄.toks + 1), .str (X.env.qual ++ "<genexpr>") (s₄.toks + 1 + 1)] } }) X.xe { s2 with heap := h3, toks := tk } := by
    intro code h3 tk ps' hx hsz hP3 hmore ht3
    obtain ⟨more, em⟩ := hmore
    subst em
    obtain ⟨bm, ob, e1, e2, e3, e4, e5, e6, e7, e8⟩ := TB.bm
    have I3 : Inv X pins σ (upd H2 P (.tbl (ps ++ more))) { s2 with heap := h3, toks := tk } := GxR.inv_tab (g' := s2.gens) (d' := s2.drawn) I2 hP (fun b u hb e => hx b u hb e) hP3 I2.bare
    refine wpAny_builtinsFor (m := X.mg) (by rw [I3.ok.glob]; exact I3.mod.glob.keeps I3.bk) e1 e2 (I3.bk _ _ e5) e6 e7 e8 ?_
    intro h' hn' hs'
    have hsz' : h'.objs.size = h3.objs.size + 1 := by rw [hs'.1, Heap.size_push]
    have keep' : ∀ b o, h3.get? b = some o → h'.get? b = some o := fun b o e => hs'.extBut b o (Nat.ne_of_lt (Heap.lt_size e)) (Heap.get?_push_of_some _ e)
    have f4 : ∀ b ∈ fp, FpOk X pins (upd H2 P (.tbl (ps ++ more))) b ∧ b < h3.objs.size := fun b hb => by
      refine ⟨⟨?_, (f2 b hb).2⟩, Nat.lt_of_lt_of_le (szf b hb) hsz⟩
      rw [upd_ne (nP b (f2 b hb).1)]; exact (f2 b hb).1
    refine hQ J H2 _ _ _ code fp tn it h'.objs.size s2.gens.size _ q ⟨⟨ps ++ more, upd_same, ht3⟩, fun b hb => upd_ne hb⟩ I3 T ?_ f4 (fun A hA hh => ?_) (Heap.get?_push_size _ rfl) (fun h e => ⟨_, _, _, e, rfl, rfl, rfl⟩) (fun v z => by cases z) ?_ ?_ ?_
    · exact T.keep _ _ _ st2 fun b hb o e => Heap.get?_push_of_some _ (keep' b o (hx b o (nP b (f2 b hb).1) e))
    · exact gx_start I3 ok hN f4 hA hh rfl (fun b o e => Heap.get?_push_of_some _ (keep' b o e)) (hn'.push _) (I3.bare.push rfl)
    · exact Array.getElem?_push_size ..
    · show h3.objs.size < h'.objs.size
      rw [hsz']; exact Nat.lt_succ_self _
    · show h'.objs.size < (h'.push _).objs.size
      rw [Heap.size_push]; exact Nat.lt_succ_self _
  refine ⟨I2.nolimit, ?_⟩
  cases hf : codeAmong gpos ps.toList with
  | none =>
    refine wpAny_genexprCodeX hcode (cd.code hPs ht) (cd.tab hPs) hf fun c' h' tk hx hge hlt hco' _ htab' _ => ?_
    obtain ⟨o1, vs, f1, tf, fl, tg, inF, tx, tt, op, _, _, _, _, _, _, _, _, _, htr, _⟩ := hco'
    exact cont _ h' tk _ hx (Nat.le_trans hge (Nat.le_of_lt hlt)) htab'.2 ⟨_, rfl⟩ htr
  | some cv =>
    refine wpAny_genexprCode_hit hcode (cd.code hPs ht) hf ?_
    exact cont cv s2.heap s2.toks ps (Heap.ExtBut.refl _ _) (Nat.le_refl _) hPs ⟨#[], by simp⟩ ht
end
section
variable {G : GC} {Y : AS} {X : Cx} {tg elt iter : Expr} {scope : Scope} {own : List (Str × Nat)}
/-- the elements' values; the row stays -/
def gVals (t : Tg) (me : ME) (slw : Sl) (r : Rw) : List D → Option (List D)
  | [] => some []
  | d :: ds => (bindT t slw d).bind fun sl1 => (me ⟨sl1, r⟩).bind fun q => if q.2 = r then (gVals t me slw r ds).map (q.1.d :: ·) else none
theorem gVals_at {t : Tg} {me : ME} {slw : Sl} {r : Rw} : ∀ {ds vals : List D} {j : Nat} {y : D}, gVals t me slw r ds = some vals → vals[j]? = some y → ∃ d sl1 e, ds[j]? = some d ∧ bindT t slw d = some sl1 ∧ me ⟨sl1, r⟩ = some (e, r) ∧ e.d = y
  | [], vals, j, y, h, hy => by simp only [gVals] at h; cases h; simp at hy
  | d :: ds, vals, j, y, h, hy => by
    simp only [gVals, Option.bind_eq_some_iff] at h
    obtain ⟨sl1, h1, ⟨e, r1⟩, h2, h3⟩ := h
    simp only at h3
    split at h3
    · rename_i hr
      subst hr
      obtain ⟨l, h4, h5⟩ := Option.map_eq_some_iff.mp h3
      subst h5
      cases j with
      | zero => simp at hy; exact ⟨d, sl1, e, rfl, h1, h2, hy⟩
      | succ j => rw [List.getElem?_cons_succ] at hy ⊢; exact gVals_at h4 hy
    · cases h3
theorem gVals_len {t : Tg} {me : ME} {slw : Sl} {r : Rw} : ∀ {ds vals : List D}, gVals t me slw r ds = some vals → vals.length = ds.length
  | [], vals, h => by simp only [gVals] at h; cases h; rfl
  | d :: ds, vals, h => by
    simp only [gVals, Option.bind_eq_some_iff] at h
    obtain ⟨sl1, h1, ⟨e, r1⟩, h2, h3⟩ := h
    simp only at h3
    split at h3
    · obtain ⟨l, h4, h5⟩ := Option.map_eq_some_iff.mp h3
      subst h5
      simp [gVals_len h4]
    · cases h3
def outV : D → V
  | .bl b => .bl b
  | .int i => .int i
  | _ => .non
def isOut : D → Bool
  | .bl _ => true
  | .int _ => true
  | _ => false
theorem top_out {M : AS} {H : Hp} {v : V} {d : D} (c : isOut d = true) (h : Top G M H v d) : v = outV d := by
  cases d <;> simp [isOut] at c
  · simp only [Top, Rep] at h; exact h
  · simp only [Top, Rep] at h; exact h
/-- all that a rule for a generator expression asks -/
structure GxR1 (G : GC) (Y : AS) (X : Cx) (k : Nat) (c P : Addr) (tg elt iter : Expr) (scope : Scope) (own : List (Str × Nat)) (t : Tg) (mi : MI) (me : ME) : Prop where
  ft : Fit G X
  hr : Room (k + 1) X.A
  tb : GxR.TabB X.base X.mg c P
  tabs : P ∈ G.tabs
  code : X.env.code = .ref c
  ok : GenOk X.N X.env.scope scope own
  nd : X.N.Nodup
  it : SI G Y X tg iter mi
  fold : ∀ v, genFold iter X.env v = pure v
  tgi : tgIn (own.map (·.2)) t = true
  hg : ∀ (A : Around) (s : Shared) (H : Hp) (cl : List (Str × Addr)) (C : Addr) (code : Value) (bi : Addr) (fp : List Addr) (pn : List (Addr × Obj)), PG (gxC X A s H (genEnv scope cl C code bi X.env) fp pn) tg (gTg G.K t)
  he : ∀ (A : Around) (s : Shared) (H : Hp) (cl : List (Str × Addr)) (C : Addr) (code : Value) (bi : Addr) (fp : List Addr) (pn : List (Addr × Obj)), Room k (A.deeper (genEnv scope cl C code bi X.env)) → SE G Y (gxC X A s H (genEnv scope cl C code bi X.env) fp pn) elt me
theorem room_gx {k : Nat} {A : Around} {env : Env} (r : Room (k + 1) A) : Room k (A.in1.in1.deeper env) :=
  ⟨r.hd, by have := r.dp; show A.depth + 1 + 3 * k + 5 < _; omega, by have := r.un; show A.units + 1 + 1 + 3 + 16 * k + 200 < _; omega⟩
/-- made and ready -/
theorem gx_run {k : Nat} {c P : Addr} {t : Tg} {mi : MI} {me : ME} {gpos : Pos} {pins : List (Addr × Obj)} {sg : L2.St} {H : Hp} {s : Shared} {N : AS} {st : MS} {ds : List D} {b : Bool} {r1 : Rw} {vals : List D} {Q' : Value → Shared → Prop}
    (p : GxR1 G Y X k c P tg elt iter scope own t mi me) (I : Inv X pins sg H s) (at_ : At G Y N sg H st) (h1 : mi st = some (ds, b, r1)) (h2 : gVals t me (wipeS st.sl (own.map (·.2))) r1 ds = some vals) (ho : ∀ d ∈ vals, isOut d = true)
    (hQ : ∀ (H1 H4 : Hp) (s4 s5 : Shared) (cenv : Env) (fp : List Addr) (tn : Nat → Heap → Prop) (it a : Addr) (gi : Nat) (oa : Obj) (J : It), Ext G H H1 → (∀ b ∈ fp, FpOk X pins H4 b) → Inv X pins sg H4 s4 → (∀ h : Heap, h.get? a = some oa → h.IsGen a gi) → s5.heap.get? a = some oa → cStatics < s5.heap.objs.size →
      (∀ S : List Addr, (∀ b ∈ S, s5.heap.objs.size ≤ b) → GxP X X.A.in1.in1 s4 H4 cenv fp [(a, oa)] S J tn it tg elt (gTg G.K t) (rdE G Y me) (wipe sg (own.map (·.2))) (own.map (·.2)) (vals.map outV) (fun H' => Ext G H1 H' ∧ RowAt G H' r1)) →
      (∀ (S : List Addr) (po : List (Addr × Obj)) (s6 : Shared), s6.os = s5.os → s6.gens = s5.gens → (∀ b o, s5.heap.get? b = some o → s6.heap.get? b = some o) → po.map (·.1) = S → (∀ q ∈ po, s5.heap.objs.size ≤ q.1 ∧ s6.heap.get? q.1 = some q.2 ∧ ∀ v, q.2.data ≠ .cell v) →
        GReady X X.A.in1.in1 s4 H4 cenv fp [(a, oa)] S tn (wipe sg (own.map (·.2))) (vals.map outV) (fun H' => Ext G H1 H' ∧ RowAt G H' r1) a gi 0 s6) → Q' (.ref a) s5) :
    wpAny (model X.prog X.w) X.A (eval (.GeneratorExp elt [⟨tg, iter, [], 0⟩] scope gpos) X.env) Q' X.xe s := by
  refine gx_make (R := fun J H1 => Ext G H H1 ∧ RowAt G H1 r1 ∧ ∃ pn, PinsL G (Nf N H) H1 pn ∧ ItOk G pn J ds) p.hr p.tb p.code p.ok p.nd p.it p.fold I
    ⟨N, st, ds, b, r1, at_, h1, fun pn J H1 x w pl _ io => ⟨w.2.2 P p.tabs, x, w, pn, pl, io⟩⟩ ?_
  rintro J H1 H4 s4 s5 code fp tn it a gi oa ⟨x1, w1, pn, pl, io⟩ ⟨tb, hb⟩ I4 T st5 f4 I5 ha hoa hnc hgen hlt1 hlt2
  have hh : X.A.handled = none := p.hr.hd
  have hfr : X.A.in1.in1.frames = some X.stack := I4.ok.frames
  have sz45 : s4.heap.objs.size ≤ s5.heap.objs.size := Nat.le_of_lt (Nat.lt_trans hlt1 hlt2)
  have I5' := I5 X.A.in1.in1 hfr hh
  have ne_st : a ∉ frs X.stack := fun hm => by
    obtain ⟨_, o, ho, _⟩ := I4.stack.mem hm
    exact absurd (Nat.lt_trans (Heap.lt_size ho) hlt1) (Nat.lt_irrefl _)
  have I6 := gx_pn (oa := oa) I5' ⟨ha, I4.hok.fresh (Nat.le_of_lt hlt1), Nat.ne_of_gt hlt1, ne_st, hnc⟩
  have x4 : Ext G H1 H4 := by
    refine ⟨fun z o h n nt => ?_, fun z xs h => ?_, fun z h => ?_⟩
    · by_cases e : z = P
      · obtain ⟨ps, hp, _⟩ := w1.2.2 P p.tabs
        rw [e, hp] at h
        exact absurd (Option.some.inj h).symm (nt ps)
      · rw [hb z e]; exact h
    · by_cases e : z = P
      · obtain ⟨ps, hp, _⟩ := w1.2.2 P p.tabs
        rw [e, hp] at h
        cases h
      · rw [hb z e]; exact h
    · by_cases e : z = P
      · obtain ⟨ps, hp, _⟩ := tb
        rw [e, hp] at h
        cases h
      · rw [← hb z e]; exact h
  have w4 : RowAt G H4 r1 := by
    obtain ⟨a1, a2, a3⟩ := w1
    have nP : ∀ {z : Addr} {o : HO}, H1 z = some o → (∀ ps, o ≠ .tbl ps) → z ≠ P := fun {z o} h nt e => by
      obtain ⟨ps, hp, _⟩ := a3 P p.tabs
      rw [e, hp] at h
      exact nt ps (Option.some.inj h).symm
    refine ⟨by rw [hb _ (nP a1 fun ps z => by cases z)]; exact a1, ?_, fun P' hP' => ?_⟩
    · rcases a2 with (z | ⟨ob, z⟩) | z
      · exact .inl (.inl (by rw [hb _ (nP z fun ps z => by cases z)]; exact z))
      · exact .inl (.inr ⟨ob, by rw [hb _ (nP z fun ps z => by cases z)]; exact z⟩)
      · exact .inr z
    · by_cases e : P' = P
      · rw [e]; exact tb
      · obtain ⟨ps, hp, q⟩ := a3 P' hP'
        exact ⟨ps, by rw [hb P' e]; exact hp, q⟩
  have a1 : At G Y (Nf N H) sg H1 ⟨st.sl, r1⟩ := ⟨(at_.sl.wide nf_of fun _ z => z).ext x1, w1, nro_nf at_.nro at_.row⟩
  have lenV := gVals_len h2
  have gp : ∀ S : List Addr, (∀ b ∈ S, s5.heap.objs.size ≤ b) → GxP X X.A.in1.in1 s4 H4 (genEnv scope (cloFrom X.env.cells scope.names []) s4.heap.objs.size code builtinsNs X.env) fp [(a, oa)] S J tn it tg elt (gTg G.K t) (rdE G Y me) (wipe sg (own.map (·.2))) (own.map (·.2)) (vals.map outV) (fun H' => Ext G H1 H' ∧ RowAt G H' r1) := fun S hS => by
    have lv : (vals.map outV).length = ds.length := by rw [List.length_map, lenV]
    refine ⟨p.ft.calm, T, p.hg _ _ _ _ _ _ _ _ _, p.he _ _ _ _ _ _ _ _ _ (room_gx p.hr), p.ok.co, fun j H' hj pv => ?_, fun H' pv => ?_, fun j z y H' H'' hy pv yl => ?_, fun b hb => ⟨Nat.le_trans sz45 (hS b hb), fun hm => ?_, fun q hq z => ?_⟩, fun b hb q hq z => ?_⟩
    · rw [lv] at hj
      exact io.walk.goes j H' hj ⟨_, pl.fix pv.1 fun _ z => z⟩
    · rw [lv]
      exact io.walk.stops H' ⟨_, pl.fix pv.1 fun _ z => z⟩
    · have hy' := hy
      rw [List.getElem?_map] at hy
      obtain ⟨d0, hd0, rfl⟩ := Option.map_eq_some_iff.mp hy
      obtain ⟨d, sl1, e, q1, q2, q3, q4⟩ := gVals_at h2 hd0
      have hj : j < ds.length := (List.getElem?_eq_some_iff.mp q1).1
      obtain ⟨gr, hd⟩ := io.walk.yields j H' z H'' hj ⟨_, pl.fix pv.1 fun _ z => z⟩ yl
      obtain ⟨d', e1, rz⟩ := hd _ (pl.fix pv.1 fun _ z => z)
      rw [q1] at e1
      cases e1
      have a2 : At G Y (Nf N H) (wipe sg (own.map (·.2))) H' ⟨wipeS st.sl (own.map (·.2)), r1⟩ := ⟨(a1.sl.ext pv.1).wipe _, pv.2, a1.nro⟩
      have a3 := a2.grow gr
      refine bind_e a3 rz q2 p.tgi fun sg2 hw a4 => ⟨by rw [hw, wipe_wipe], _, _, e, r1, a4, q3, fun v H3 x3 w3 o => ⟨?_, pv.1.trans (gr.ext.trans x3), w3⟩⟩
      rw [← q4]
      exact top_out (by rw [q4]; exact ho d0 (List.mem_of_getElem? hd0)) o.top
    · exact absurd (Nat.lt_of_lt_of_le (f4 b hm).2 (Nat.le_trans sz45 (hS b hb))) (Nat.lt_irrefl _)
    · have : q = (a, oa) := by simpa using hq
      subst this
      have : b < s5.heap.objs.size := by rw [← z]; exact hlt2
      exact absurd (Nat.lt_of_lt_of_le this (hS b hb)) (Nat.lt_irrefl _)
    · have : q = (a, oa) := by simpa using hq
      subst this
      have : a < s4.heap.objs.size := by rw [show a = b from z]; exact (f4 b hb).2
      exact absurd (Nat.lt_trans this hlt1) (Nat.lt_irrefl _)
  refine hQ H1 H4 s4 s5 _ fp tn it a gi oa J x1 (fun b hb => (f4 b hb).1) I4 hoa ha (let ⟨_, hn, _⟩ := I5'.nolimit; hn.lt) gp fun S po s6 ho6 hg6 hk6 hS hpo => ?_
  have hbare : AllBare s6.gens := by rw [hg6]; exact I6.bare
  have gS : ∀ b ∈ S, s5.heap.objs.size ≤ b := fun b hb => by
    rw [← hS] at hb
    obtain ⟨q, hq, rfl⟩ := List.mem_map.mp hb
    exact (hpo q hq).1
  have I7 : Inv (gxC X X.A.in1.in1 s4 H4 (genEnv scope (cloFrom X.env.cells scope.names []) s4.heap.objs.size code builtinsNs X.env) fp [(a, oa)]) po (wipe sg (own.map (·.2))) H4 (s6.setGen gi .running) := by
    obtain ⟨h6, g6, d6, t6, o6⟩ := s6
    have : o6 = s5.os := ho6
    subst this
    have K1 := inv_gens (g' := ((⟨h6, g6, d6, t6, s5.os⟩ : Shared).setGen gi .running).gens) (t' := t6) (d' := d6) (I6.kept (h' := h6) (t' := t6) hk6) (allBare_setGen hbare rfl)
    refine Inv.pins_of (pins := []) K1 fun q hq => ⟨(hpo q hq).2.1, I4.hok.fresh (Nat.le_trans sz45 (hpo q hq).1), ?_, fun hm => ?_, (hpo q hq).2.2⟩
    · exact Nat.ne_of_gt (Nat.lt_of_lt_of_le (Nat.lt_trans hlt1 hlt2) (hpo q hq).1)
    · obtain ⟨_, o, ho, _⟩ := I4.stack.mem hm
      exact absurd (Nat.lt_of_lt_of_le (Heap.lt_size ho) (Nat.le_trans sz45 (hpo q hq).1)) (Nat.lt_irrefl _)
  refine ⟨hoa _ (hk6 _ _ ha), ?_, hbare, _, by rw [hg6]; exact hgen, ?_⟩
  · exact I5'.nolimit.keeps hk6
  · refine ⟨rfl, ?_⟩
    exact gx_seg0 (gp S gS) hS (fun b hb => rfl) ⟨H4, I7, T.keep _ _ _ st5 fun b hb o e => hk6 b o e, fun b hb => (f4 b hb).1.1, x4, w4⟩
/-! ### all, any, sum -/
def asBl : D → Option Bool
  | .bl b => some b
  | _ => none
def asIn : D → Option Int
  | .int i => some i
  | _ => none
theorem mapM_bl : ∀ {vals : List D} {bs : List Bool}, vals.mapM asBl = some bs → vals = bs.map D.bl
  | [], bs, h => by simp at h; subst h; rfl
  | d :: r, bs, h => by
    simp only [List.mapM_cons, Option.bind_eq_bind, Option.bind_eq_some_iff, Option.pure_def] at h
    obtain ⟨b, h1, bs', h2, h3⟩ := h
    cases h3
    cases d <;> simp [asBl] at h1
    subst h1
    rw [mapM_bl h2]; rfl
theorem mapM_in : ∀ {vals : List D} {bs : List Int}, vals.mapM asIn = some bs → vals = bs.map D.int
  | [], bs, h => by simp at h; subst h; rfl
  | d :: r, bs, h => by
    simp only [List.mapM_cons, Option.bind_eq_bind, Option.bind_eq_some_iff, Option.pure_def] at h
    obtain ⟨b, h1, bs', h2, h3⟩ := h
    cases h3
    cases d <;> simp [asIn] at h1
    subst h1
    rw [mapM_in h2]; rfl
def mGen {α : Type} (t : Tg) (vs : List Nat) (mi : MI) (me : ME) (f : List D → Option α) (out : α → EV) : ME := fun s => (mi s).bind fun p => (gVals t me (wipeS s.sl vs) p.2.2 p.1).bind fun l => (f l).map fun x => (out x, p.2.2)
def mAllG (t : Tg) (vs : List Nat) (mi : MI) (me : ME) : ME := mGen t vs mi me (fun l => l.mapM asBl) fun bs => evB (bs.all id)
def mAnyG (t : Tg) (vs : List Nat) (mi : MI) (me : ME) : ME := mGen t vs mi me (fun l => l.mapM asBl) fun bs => evB (bs.any id)
def mSumG (t : Tg) (vs : List Nat) (mi : MI) (me : ME) : ME := mGen t vs mi me (fun l => (l.mapM asIn).bind fun is => if sumOk 0 is = true then some is else none) fun is => evI (is.foldl (· + ·) 0)
theorem se_allG {k : Nat} {c P : Addr} {t : Tg} {mi : MI} {me : ME} {p0 pos gpos : Pos} (p : GxR1 G Y X k c P tg elt iter scope own t mi me) (hg : Gl X "all") (hm : X.mg "all" = none)
    (he : starEach [.GeneratorExp elt [⟨tg, iter, [], 0⟩] scope gpos] X.env = (false, eval (.GeneratorExp elt [⟨tg, iter, [], 0⟩] scope gpos) X.env) :: starEach [] X.env := by rfl) :
    SE G Y X (.Call (.Name "all" p0) [.GeneratorExp elt [⟨tg, iter, [], 0⟩] scope gpos] [] pos) (mAllG t (own.map (·.2)) mi me) := by
  refine ⟨fun pins s sg H Q I h => ?_⟩
  obtain ⟨N, st, e, r, at_, q, kk⟩ := h
  unfold mAllG mGen at q
  simp only [Option.bind_eq_some_iff, Option.map_eq_some_iff] at q
  obtain ⟨⟨ds, b, r1⟩, h1, vals, h2, bs, h3, h4⟩ := q
  cases h4
  have hv := mapM_bl h3
  refine wpAny_Call_Name_kw (ld_blt I hg hm boot_all ?_)
  refine PyProof.Rows.callWith_builtin1 ?_ he (by rfl)
  rw [he]
  show wpAny _ _ (spliced ((false, eval (.GeneratorExp elt [⟨tg, iter, [], 0⟩] scope gpos) X.env) :: backTo pos (starEach [] X.env))) _ _ s
  refine Calls.spliced_cons (gx_run p I at_ h1 h2 (fun d hd => by rw [hv] at hd; obtain ⟨b, _, rfl⟩ := List.mem_map.mp hd; rfl) fun H1 H4 s4 s5 cenv fp tn it a gi oa J x1 hfp I4 hoa ha hcs gp gr => ?_)
  refine Calls.spliced_nil ?_
  refine call_function_tree F.kind_all F.plain_all F.entry_all (F.args_all1 _) ?_
  unfold Builtin.«all»
  refine wpAny_bind (m := oneArg "all" _) (wpAny_pure ?_)
  refine wpAny_bind (wpAny_pyIter_gen (hoa _ ha) ?_)
  refine wpAny_pure ⟨plainId_quiet F.plain_all_loop _, all_loop (gp [] (fun b hb => by cases hb)) rfl hoa p.hr.hd (by have := p.hr.dp; omega) I4 hfp (bs := bs) (by rw [hv, List.map_map]; rfl) _ 0 s5 rfl (Nat.zero_le _)
    (gr [] [] s5 rfl rfl (fun _ _ e => e) rfl fun q hq => by cases hq) fun s' H' I' pv => ?_⟩
  exact ⟨.bl (bs.all id), H', I', rfl, kk _ H' (x1.trans pv.1) pv.2 ok_bl⟩
theorem se_anyG {k : Nat} {c P : Addr} {t : Tg} {mi : MI} {me : ME} {p0 pos gpos : Pos} (p : GxR1 G Y X k c P tg elt iter scope own t mi me) (hg : Gl X "any") (hm : X.mg "any" = none)
    (he : starEach [.GeneratorExp elt [⟨tg, iter, [], 0⟩] scope gpos] X.env = (false, eval (.GeneratorExp elt [⟨tg, iter, [], 0⟩] scope gpos) X.env) :: starEach [] X.env := by rfl) :
    SE G Y X (.Call (.Name "any" p0) [.GeneratorExp elt [⟨tg, iter, [], 0⟩] scope gpos] [] pos) (mAnyG t (own.map (·.2)) mi me) := by
  refine ⟨fun pins s sg H Q I h => ?_⟩
  obtain ⟨N, st, e, r, at_, q, kk⟩ := h
  unfold mAnyG mGen at q
  simp only [Option.bind_eq_some_iff, Option.map_eq_some_iff] at q
  obtain ⟨⟨ds, b, r1⟩, h1, vals, h2, bs, h3, h4⟩ := q
  cases h4
  have hv := mapM_bl h3
  refine wpAny_Call_Name_kw (ld_blt I hg hm boot_any ?_)
  refine PyProof.Rows.callWith_builtin1 ?_ he (by rfl)
  rw [he]
  show wpAny _ _ (spliced ((false, eval (.GeneratorExp elt [⟨tg, iter, [], 0⟩] scope gpos) X.env) :: backTo pos (starEach [] X.env))) _ _ s
  refine Calls.spliced_cons (gx_run p I at_ h1 h2 (fun d hd => by rw [hv] at hd; obtain ⟨b, _, rfl⟩ := List.mem_map.mp hd; rfl) fun H1 H4 s4 s5 cenv fp tn it a gi oa J x1 hfp I4 hoa ha hcs gp gr => ?_)
  refine Calls.spliced_nil ?_
  refine call_function_tree F.kind_any F.plain_any F.entry_any (F.args_any1 _) ?_
  unfold Builtin.«any»
  refine wpAny_bind (m := oneArg "any" _) (wpAny_pure ?_)
  refine wpAny_bind (wpAny_pyIter_gen (hoa _ ha) ?_)
  refine wpAny_pure ⟨plainId_quiet F.plain_any_loop _, any_loop (gp [] (fun b hb => by cases hb)) rfl hoa p.hr.hd (by have := p.hr.dp; omega) I4 hfp (bs := bs) (by rw [hv, List.map_map]; rfl) _ 0 s5 rfl (Nat.zero_le _)
    (gr [] [] s5 rfl rfl (fun _ _ e => e) rfl fun q hq => by cases hq) fun s' H' I' pv => ?_⟩
  exact ⟨.bl (bs.any id), H', I', rfl, kk _ H' (x1.trans pv.1) pv.2 ok_bl⟩
theorem se_sumG {k : Nat} {c P : Addr} {t : Tg} {mi : MI} {me : ME} {p0 pos gpos : Pos} (p : GxR1 G Y X k c P tg elt iter scope own t mi me) (hg : Gl X "sum") (hm : X.mg "sum" = none)
    (he : starEach [.GeneratorExp elt [⟨tg, iter, [], 0⟩] scope gpos] X.env = (false, eval (.GeneratorExp elt [⟨tg, iter, [], 0⟩] scope gpos) X.env) :: starEach [] X.env := by rfl) :
    SE G Y X (.Call (.Name "sum" p0) [.GeneratorExp elt [⟨tg, iter, [], 0⟩] scope gpos] [] pos) (mSumG t (own.map (·.2)) mi me) := by
  refine ⟨fun pins s sg H Q I h => ?_⟩
  obtain ⟨N, st, e, r, at_, q, kk⟩ := h
  unfold mSumG mGen at q
  simp only [Option.bind_eq_some_iff, Option.map_eq_some_iff] at q
  obtain ⟨⟨ds, b, r1⟩, h1, vals, h2, is, ⟨is', h3, h5⟩, h4⟩ := q
  cases h4
  split at h5
  · rename_i hok
    cases h5
    have hv := mapM_in h3
    refine wpAny_Call_Name_kw (ld_blt I hg hm boot_sum ?_)
    refine PyProof.Rows.callWith_builtin1 ?_ he (by rfl)
    rw [he]
    show wpAny _ _ (spliced ((false, eval (.GeneratorExp elt [⟨tg, iter, [], 0⟩] scope gpos) X.env) :: backTo pos (starEach [] X.env))) _ _ s
    refine Calls.spliced_cons (gx_run p I at_ h1 h2 (fun d hd => by rw [hv] at hd; obtain ⟨b, _, rfl⟩ := List.mem_map.mp hd; rfl) fun H1 H4 s4 s5 cenv fp tn it a gi oa J x1 hfp I4 hoa ha hcs gp gr => ?_)
    refine Calls.spliced_nil ?_
    refine call_function_tree F.kind_sum F.plain_sum F.entry_sum (F.args_sum1 _) ?_
    unfold Builtin.«sum»
    simp only [List.length_cons, List.length_nil]
    rw [if_neg (by decide)]
    refine wpAny_bind (wpAny_of_eq (show Builtin.Builtins.bindParams "sum" ["start"] 0 { } = pure [none] from rfl) ?_)
    refine wpAny_bind (wpAny_pyIter_gen (hoa _ ha) ?_)
    refine wpAny_bind (wpAny_mkInt ?_)
    refine wpAny_bind (wpAny_pure ?_)
    simp only [List.forIn_cons, List.forIn_nil]
    refine wpAny_bind (wpAny_bind (wpAny_bind (wpAny_isInstance (T := "int") (b := false) (typeIs_int _ _ _) PySem.sub_int_str ?_)))
    simp only [Bool.false_eq_true, if_false]
    refine wpAny_pure (wpAny_bind (wpAny_bind (wpAny_isInstance (T := "int") (b := false) (typeIs_int _ _ _) PySem.sub_int_bytes ?_)))
    simp only [Bool.false_eq_true, if_false]
    refine wpAny_pure (wpAny_bind (wpAny_bind (wpAny_isInstance (T := "int") (b := false) (typeIs_int _ _ _) PySem.sub_int_bytearray ?_)))
    simp only [Bool.false_eq_true, if_false]
    refine wpAny_pure (wpAny_pure ?_)
    refine wpAny_bind (wpAny_newObj_type ?_)
    refine wpAny_pure ⟨plainId_quiet F.plain_sum_loop _, sum_loop (gp [s5.heap.objs.size] (fun b hb => by rw [List.mem_singleton.mp hb]; exact Nat.le_refl _)) rfl hoa p.hr.hd (by have := p.hr.dp; omega) (Nat.ne_of_lt hcs) I4 hfp (is := is) (by rw [hv, List.map_map]; rfl) _ 0 _ 0 s5.toks 0 rfl (Nat.zero_le _)
      (gr [s5.heap.objs.size] [(s5.heap.objs.size, sumO 0 s5.toks 0)] _ rfl rfl (fun b o e => Heap.get?_push_of_some _ e) rfl fun q hq => ?_) (Heap.get?_push_size _ rfl) hok fun s' H' t' I' pv => ?_⟩
    · rw [List.mem_singleton.mp hq]
      exact ⟨Nat.le_refl _, Heap.get?_push_size _ rfl, fun v z => by cases z⟩
    · exact ⟨.int (is.foldl (· + ·) 0), H', I', ⟨t', rfl⟩, kk _ H' (x1.trans pv.1) pv.2 ok_int⟩
  · cases h5
end
end GD
/-! Gs -/
set_option maxHeartbeats 4000000
/-! Gs: comprehensions as values, dicts made. -/
namespace GD
open PySem PySem.Spec PyProof.Rows L2
open Sem (wp)
section
variable {G : GC} {Y : AS} {X : Cx} {elt tg iter : Expr} {ifs : List Expr} {scope : Scope} {own : List (Str × Nat)} {pos : Pos}
/-! ### [..] -/
abbrev STs (G : GC) (Y : AS) (X : Cx) (ifs : List Expr) (mt : MT) : Prop := PTs X ifs (rdT G Y mt)
theorem sts_nil : STs G Y X [] mYes := ⟨fun pins s sg H Q I h => pts_nil.run pins s sg H Q I (by
  obtain ⟨N, st, b, r, at_, q, k⟩ := h
  cases q
  exact k H (Ext.refl G H) at_.row)⟩
theorem sts_one {c : Expr} {mt : MT} (h : ST G Y X c mt) : STs G Y X [c] mt := pts_one h
structure LcR (G : GC) (Y : AS) (X : Cx) (elt tg iter : Expr) (ifs : List Expr) (scope : Scope) (own : List (Str × Nat)) (t : Tg) (mi : MI) (mt : MT) (me : ME) : Prop where
  ft : Fit G X
  nd : X.N.Nodup
  it : SI G Y X tg iter mi
  ok : BlkOk X.N X.env.scope scope own
  hg : ∀ (s : Shared) (H : Hp) (C : Addr) (cl : List (Str × Addr)) (fp : List Addr), PG (X.blk s H scope (compEnvC scope cl C X.env) fp) tg (gTg G.K t)
  ht : ∀ (s : Shared) (H : Hp) (C : Addr) (cl : List (Str × Addr)) (fp : List Addr), STs G Y (X.blk s H scope (compEnvC scope cl C X.env) fp) ifs mt
  he : ∀ (s : Shared) (H : Hp) (C : Addr) (cl : List (Str × Addr)) (fp : List Addr), SE G Y (X.blk s H scope (compEnvC scope cl C X.env) fp) elt me
  fold : ∀ x, foldedSetIterable iter X.env x = pure x
  tgi : tgIn (own.map (·.2)) t = true
theorem se_lc {t : Tg} {mi : MI} {mt : MT} {me : ME} (p : LcR G Y X elt tg iter ifs scope own t mi mt me) : SE G Y X (.ListComp elt [⟨tg, iter, ifs, 0⟩] scope pos) (mLc t (own.map (·.2)) mi mt me) :=
  PE.weak (pe_lc p.ft.calm p.nd p.it p.ok p.hg p.ht p.he p.fold) fun _ _ _ h => rd_lc p.tgi h
theorem ss_lc {t : Tg} {mi : MI} {mt : MT} {me : ME} {i : Nat} {y : Str} {py spos : Pos} (p : LcR G Y X elt tg iter ifs scope own t mi mt me) (hy : X.N[i]? = some y) (hyl : X.env.scope.names.lookup y = some .local)
    (hsw : swapsWith (.ListComp elt [⟨tg, iter, ifs, 0⟩] scope pos) (some (.Name y py)) spos.line X.env = pure true) : SS G Y X (.Assign [.Name y py] (.ListComp elt [⟨tg, iter, ifs, 0⟩] scope pos) spos) (mAsg i (mLc t (own.map (·.2)) mi mt me)) :=
  ss_of (ps_setLc p.ft.calm p.nd hy hyl hsw p.it p.ok p.hg p.ht p.he p.fold) fun _ _ _ h => rd_lc p.tgi h
/-! ### dicts with tuple keys, made -/
abbrev dob : Obj := { cls := .type "dict", data := .dict #[] }
theorem do_empty {P : Program} {w : World} {H : Hp} (h : Heap) (hb : sysModules < h.objs.size) : ObjOk P w H (h.push { cls := .type "dict", data := .dict #[] }) h.objs.size (DO G h.objs.size (dob, [])) :=
  ⟨⟨Nat.zero_le _, beq_eq_false_iff_ne.mpr (Ne.symm (Nat.ne_of_lt hb)), [], .nil, #[], 0, Heap.get?_push_size _ rfl, ⟨rfl, rfl, rfl⟩, rfl, rfl, List.nodup_nil⟩, ⟨_, Heap.get?_push_size _ rfl⟩, fun a1 a2 q1 q2 => by
    obtain ⟨z', y', xs', r', E', ep', k1, k2⟩ := q1
    exact ⟨z', y', xs', r', E', ep', q2 _ k1, k2⟩⟩
theorem do_dictSet {pins : List (Addr × Obj)} {σ : L2.St} {H : Hp} {s : Shared} {E : Value → Shared → Prop} {D b : Addr} {es : DE} {M : AS} {l : List (GD.D × GD.D)} {k : GD.D} {v : V} {r : Value} {Q : Unit → Shared → Prop} (ft : Fit G X) (hu : X.A.units + 8 < cLine) (I : Inv X pins σ H s)
    (hD : H D = some (DO G D es)) (rl : RepT G M H es.2 l) (ck : keyOk k = true) (rk : Rep G M H (.ref b) k) (hz : es.2.length < sizeLine) (rv : RelV v r) (h : ∀ ob s', Inv X pins σ (upd H D (DO G D (ob, storeE es.2 (nk k) b v))) s' → Q () s') : wpAny (model X.prog X.w) X.A (dictSet D (.ref b) r) Q E s := by
  obtain ⟨_, hm, xs, pr, dd⟩ := do_at ft I hD rl
  have hl : es.2.length = xs.length := Paired.length pr
  refine wpAny_dictSet_heap (hsz := by omega) (knd := nestedKind X.prog X.w) hu (Rep.key ft I rk ck) dd fun h' dd' hs => ?_
  obtain ⟨ob, ok⟩ := do_ok (H' := upd H D (DO G D es)) ft.P ft.w (Nat.le_trans (storeE_len _ _ _ _) hz) hm (store_paired pr rv) dd'
  refine h ob _ ?_
  have he : ∃ q, h'.get? D = some q := let ⟨q, _, _, hq, _⟩ := dd'; ⟨q, hq⟩
  exact I.write (x := D) (e := D) (by rw [hD]; trivial) (.inl rfl) (fun b u hb z => (hs.2 b hb).trans z) he ok
def tDcO (G : GC) (wi : TI) (g : TG) (tt : TT) (tk tv : TE) (vs : List Nat) : TE := fun σ H Q => wi σ H fun J H1 => ∀ D o, H1 D = none → ∃ W : Nat → Nat → Hp → Prop, (∃ m, W 0 m (upd H1 D (DO G D (o, [])))) ∧ ∀ i m H, W i m H →
  (J.stop i H ∧ Q (.ref D) H) ∨ (J.go i H ∧ ∃ Nx : Hp → Prop, (∀ H', Nx H' → ∃ m', m' < m ∧ W (i + 1) m' H') ∧ ∀ x H', J.yld i H x H' → g x (wipe σ vs) H' fun σ2 H2 => wipe σ2 vs = wipe σ vs ∧ tt σ2 H2 fun b H3 =>
    if b = true then tk σ2 H3 fun y H4 => tv σ2 H4 fun z H5 => ∃ (M : AS) (es : DE) (l : List (GD.D × GD.D)) (k : GD.D) (b : Addr), y = .ref b ∧ H5 D = some (DO G D es) ∧ RepT G M H5 es.2 l ∧ keyOk k = true ∧ Rep G M H5 (.ref b) k ∧ es.2.length < sizeLine ∧
      ∀ ob, Nx (upd H5 D (DO G D (ob, storeE es.2 (nk k) b z))) else Nx H3)
theorem dco_core {pins : List (Addr × Obj)} {s : Shared} {σ : L2.St} {H : Hp} {Q : VK} {kx vx tg iter : Expr} {ifs : List Expr} {scope : Scope} {own : List (Str × Nat)} {pos pos' : Pos} {wi : TI} {g : TG} {tt : TT} {tk tv : TE} {use : Option (Value → Sem Unit)} {Qf : Value → Shared → Prop}
    (hc : X.calm = true) (hN : X.N.Nodup) (I : Inv X pins σ H s) (hi : PI X tg iter wi) (ok : BlkOk X.N X.env.scope scope own)
    (hg : ∀ (s : Shared) (H : Hp) (C : Addr) (cl : List (Str × Addr)) (fp : List Addr), PG (X.blk s H scope (compEnvC scope cl C X.env) fp) tg g) (ht : ∀ (s : Shared) (H : Hp) (C : Addr) (cl : List (Str × Addr)) (fp : List Addr), PTs (X.blk s H scope (compEnvC scope cl C X.env) fp) ifs tt)
    (hk : ∀ (s : Shared) (H : Hp) (C : Addr) (cl : List (Str × Addr)) (fp : List Addr), PE (X.blk s H scope (compEnvC scope cl C X.env) fp) kx tk)
    (he : ∀ (s : Shared) (H : Hp) (C : Addr) (cl : List (Str × Addr)) (fp : List Addr), PE (X.blk s H scope (compEnvC scope cl C X.env) fp) vx tv) (hs : ∀ x, foldedSetIterable iter X.env x = pure x)
    (ft : Fit G X) (hu : X.A.units + 8 < cLine) (h : tDcO G wi g tt tk tv (own.map (·.2)) σ H Q)
    (hRR : ∀ D C s' m H', Inv X pins σ H' s' → Q (.ref D) H' → s'.heap.Ns C m → FpOk X pins H' C → compPost (model X.prog X.w) X.A X.xe use Qf (.ref D) C (.ok .next) s') :
    wpAny (model X.prog X.w) X.A (comprehension (.DictComp kx vx [⟨tg, iter, ifs, 0⟩] scope pos) scope X.env pos' newDict false (eval iter X.env) use) Qf X.xe s := by
  have hfree : ∀ y ∈ scope.names, y.2 = .free → ∃ c, X.env.cells.lookup y.1 = some c := fun y hy e => by
    rcases ok.free y hy e with k | k
    · exact I.ok.has _ (.inl k)
    · exact I.ok.has _ (.inr k)
  refine wpAny_comprehension_free (use := use) rfl hs (closure_ok hfree) ok.kind (fun y hy e => by rw [ok.uniq y hy, e])
    (thn (hi.run pins s σ H _ I h) fun xv s1 hx => thn hx fun itv s2 h2 => ?_)
  obtain ⟨it, fp, tn, J, H2, e, I2, T, st2, f2, q⟩ := h2
  subst e
  refine wpAny_newObj_type (newEnv_comp ?_)
  generalize hD : s2.heap.objs.size = D
  have hDn : H2 D = none := I2.hok.fresh (Nat.le_of_eq hD)
  obtain ⟨W, ⟨m0, w0⟩, turn⟩ := q D dob hDn
  -- the new dict
  generalize hs3 : ({ s2 with heap := s2.heap.push { cls := .type "dict", data := .dict #[] } } : Shared) = s3
  have I3 : Inv X pins σ (upd H2 D (DO G D (dob, []))) s3 := by
    rw [← hs3]
    refine I2.laid (t' := s2.toks) (fun b o e => Heap.get?_push_of_some _ e) (Nat.le_of_eq hD) ?_
    rw [← hD]
    exact do_empty s2.heap I2.big
  have h3 : s3.heap = s2.heap.push { cls := .type "dict", data := .dict #[] } := by rw [← hs3]
  have sz : ∀ b ∈ fp, b < s2.heap.objs.size := fun b hb => by
    obtain ⟨o, e, _⟩ := T.obj _ _ st2 b hb
    exact Heap.lt_size e
  have f3 : ∀ b ∈ fp, FpOk X pins (upd H2 D (DO G D (dob, []))) b ∧ b < s3.heap.objs.size := fun b hb => by
    have hlt := sz b hb
    refine ⟨⟨?_, (f2 b hb).2⟩, by rw [h3, Heap.size_push]; exact Nat.lt_succ_of_lt hlt⟩
    rw [upd_ne (by rw [← hD]; exact Nat.ne_of_lt hlt)]
    exact (f2 b hb).1
  have st3 : tn 0 s3.heap := T.keep _ _ _ st2 fun b _ o e => by rw [h3]; exact Heap.get?_push_of_some _ e
  have I4 := block_start I3 ok hN f3
  have pg := hg s3 (upd H2 D (DO G D (dob, []))) s3.heap.objs.size (cellsFrom (s3.heap.objs.size + 1) scope.names (cloFrom X.env.cells scope.names [])) fp
  have pt := ht s3 (upd H2 D (DO G D (dob, []))) s3.heap.objs.size (cellsFrom (s3.heap.objs.size + 1) scope.names (cloFrom X.env.cells scope.names [])) fp
  have pk := hk s3 (upd H2 D (DO G D (dob, []))) s3.heap.objs.size (cellsFrom (s3.heap.objs.size + 1) scope.names (cloFrom X.env.cells scope.names [])) fp
  have pe := he s3 (upd H2 D (DO G D (dob, []))) s3.heap.objs.size (cellsFrom (s3.heap.objs.size + 1) scope.names (cloFrom X.env.cells scope.names [])) fp
  show codeAny _ _ (.compStart (.DictComp kx vx [⟨tg, iter, ifs, 0⟩] scope pos) 0 (.ref it) (.ref D) (compEnvC scope (cellsFrom (s3.heap.objs.size + 1) scope.names (cloFrom X.env.cells scope.names [])) s3.heap.objs.size X.env)) (compPost (model X.prog X.w) X.A X.xe use Qf (.ref D) s3.heap.objs.size) { s3 with heap := pushCells (s3.heap.push { cls := .type "dict", data := .dict #[] }) scope.names }
  have nfp : ∀ b ∈ fp, (upd H2 D (DO G D (dob, []))) b = none := fun b hb => (f3 b hb).1.1
  generalize hce : compEnvC scope (cellsFrom (s3.heap.objs.size + 1) scope.names (cloFrom X.env.cells scope.names [])) s3.heap.objs.size X.env = ce at I4 pg pt pk pe ⊢
  have cL : ce.locals = s3.heap.objs.size := by subst hce; rfl
  generalize hH3 : upd H2 D (DO G D (dob, [])) = H3 at I3 I4 pg pt pk pe w0 nfp f3
  generalize hs4 : ({ s3 with heap := pushCells (s3.heap.push { cls := .type "dict", data := .dict #[] }) scope.names } : Shared) = s4 at I4 ⊢
  have st4 : tn 0 s4.heap := T.keep _ _ _ st3 fun b _ o e => by rw [← hs4]; exact pushCells_keeps _ _ _ _ (Heap.get?_push_of_some _ e)
  have stat : ∀ {σ' : L2.St} {H' : Hp} {s' : Shared}, Inv (X.blk s3 H3 scope ce fp) [] σ' H' s' → (∀ b ∈ fp, H' b = none) → ∀ b ∈ fp, FpOk (X.blk s3 H3 scope ce fp) [] H' b := fun {σ' H' s'} I' hn b hb =>
    ⟨hn b hb, (I'.ok.exf b hb).1, I'.ok.exfs b hb, .inl hb, fun x c e => (I'.ok.exf b hb).2 x c e, fun p hp => absurd (show p ∈ ([] : List (Addr × Obj)) ++ [] from hp) (by simp)⟩
  have loop : codeAny (model X.prog X.w) X.A (.compLoop (.DictComp kx vx [⟨tg, iter, ifs, 0⟩] scope pos) 0 (.ref it) (.ref D) ce) (compPost (model X.prog X.w) X.A X.xe use Qf (.ref D) s3.heap.objs.size) s4 := by
    refine compLoop_anyD (fun n s' => ∃ i H', Inv (X.blk s3 H3 scope ce fp) [] (wipe σ (own.map (·.2))) H' s' ∧ tn i s'.heap ∧ (∀ b ∈ fp, H' b = none) ∧ W i n H') ?_ m0 ⟨0, H3, I4, st4, nfp, w0⟩
    rintro n s5 ⟨i, H5, I5, st5, n5, w5⟩
    rcases turn i n H5 w5 with ⟨stop, qq⟩ | ⟨go, Nx, hNx, step⟩
    · have td := T.done (X.blk s3 H3 scope ce fp) rfl rfl rfl hc i [] s5 _ H5 (fun _ _ => False) I5 (stat I5 n5) st5 stop
      refine thnF td fun r s6 ⟨hr, I6⟩ => ?_
      subst hr
      -- back in the def's context
      have I7 : Inv X pins σ H5 s6 := I3.call' (ch := fp) I6.os I6.base I6.hok I6.bare fun b hb => ⟨(f3 b hb).1.2.2.2.1, (f3 b hb).1.2.1, (f3 b hb).1.2.2.2.2.1, (f3 b hb).1.2.2.2.2.2⟩
      have nC : H5 s3.heap.objs.size = none := by
        have z : H5 ce.locals = none := I6.free
        rw [cL] at z
        exact z
      obtain ⟨m, hn, _⟩ := I6.loc
      have hn : s6.heap.Ns ce.locals m := hn
      rw [cL] at hn
      exact hRR D s3.heap.objs.size s6 m H5 I7 qq hn (I3.fpOk (Nat.le_refl _) nC)
    · have ti := T.item (X.blk s3 H3 scope ce fp) rfl rfl rfl hc i [] s5 _ H5 (fun _ _ => False) I5 (stat I5 n5) st5 go
      refine thnF ti fun r s6 ⟨u, hr, h6⟩ => ?_
      subst hr
      refine thnF h6 fun _ s7 ⟨x, H7, I7, r7, y7, st7, n7⟩ => ?_
      have I7' := I7.pinned (stat I7 n7) (T.obj _ _ st7)
      refine thnF (pg.run _ s7 _ H7 x u _ I7' r7 (step x H7 y7)) fun _ s8 ⟨σ8, H8, I8, hw8, q8⟩ => ?_
      refine thnF (pt.run _ s8 σ8 H8 _ I8 q8) fun b s9 ⟨H9, I9, q9⟩ => ?_
      -- the turn's end
      have fin : ∀ {s' : Shared} {H' : Hp}, Inv (X.blk s3 H3 scope ce fp) ([] ++ pinsAt fp s7.heap) σ8 H' s' → Nx H' → ∃ m, m < n ∧ ∃ i H', Inv (X.blk s3 H3 scope ce fp) [] (wipe σ (own.map (·.2))) H' s' ∧ tn i s'.heap ∧ (∀ b ∈ fp, H' b = none) ∧ W i m H' := fun {s' H'} I' nx => by
        obtain ⟨m', hm, w'⟩ := hNx H' nx
        have pin' : ∀ b ∈ fp, ∀ o, s7.heap.get? b = some o → s'.heap.get? b = some o ∧ H' b = none := fun b hb o e =>
          let z := I'.pin (b, o) (List.mem_append_right _ (List.mem_append_right _ (mem_pinsAt hb e)))
          ⟨z.1, z.2.1⟩
        have hl : (wipe σ (own.map (·.2))).length = σ8.length := by rw [← hw8, wipe_length]
        refine ⟨m', hm, i + 1, H', (I'.unpinned (pins := [])).weak hl (fun j v e => ?_), T.keep _ _ _ st7 fun b hb o e => (pin' b hb o e).1, fun b hb => ?_, w'⟩
        · rw [← hw8] at e
          exact (wipe_some e).1
        · obtain ⟨o, e, _⟩ := T.obj _ _ st7 b hb
          exact (pin' b hb o e).2
      cases b with
      | false =>
        simp only [Bool.false_eq_true, if_false] at q9 ⊢
        exact fin I9 q9
      | true =>
        simp only [if_true] at q9 ⊢
        refine thnF (pk.run _ s9 σ8 H9 _ I9 q9) fun z s10 ⟨yk, H10, I10, r10, q10⟩ => ?_
        refine thnF (pe.run _ s10 σ8 H10 _ I10 q10) fun z2 s11 ⟨yv, H11, I11, r11, M, es, l, k, b, ek, hD11, rl, ck, rk, hz11, nx⟩ => ?_
        subst ek
        cases r10
        exact do_dictSet (X := X.blk s3 H3 scope ce fp) ⟨ft.P, ft.w, ft.K, ft.calm⟩ hu I11 hD11 rl ck rk hz11 r11 fun ob s12 I12 => fin I12 (nx ob)
  exact codeAny_compStart_dict loop (T.self X.A 0 _ _ _ st4 loop)
def mDcGo (t : Tg) (mk mv : ME) (sl : Sl) : List D → Rw → List (D × D) → Option (List (D × D) × Rw)
  | [], r, acc => some (acc, r)
  | d :: ds, r, acc => (bindT t sl d).bind fun sl1 => (mk ⟨sl1, r⟩).bind fun p => (mv ⟨sl1, p.2⟩).bind fun q => if (keyOk p.1.d && noBorK q.1 && decide (acc.length < lim)) = true then mDcGo t mk mv sl ds q.2 (putT acc p.1.d q.1.d) else none
def mDc (t : Tg) (vs : List Nat) (mi : MI) (mk mv : ME) : ME := fun s => (mi s).bind fun p => (mDcGo t mk mv (wipeS s.sl vs) p.1 p.2.2 []).map fun q => (⟨.dT q.1, .new⟩, q.2)
end
end GD
/-! Gt -/
set_option maxHeartbeats 4000000
/-! Gt: dict comprehensions and displays with tuple keys. -/
namespace GD
open PySem PySem.Spec PyProof.Rows L2
open Sem (wp)
section
variable {G : GC} {Y : AS} {X : Cx} {kx vx tg iter : Expr} {scope : Scope} {own : List (Str × Nat)} {pos : Pos}
theorem do_ntbl {p : Addr} {es : DE} : ∀ ps, DO G p es ≠ .tbl ps := fun ps z => by unfold DO at z; cases z
theorem do_ntup {p : Addr} {es : DE} : ∀ ps, DO G p es ≠ .tup ps := fun ps z => by unfold DO at z; cases z
theorem rd_dc {t : Tg} {vs : List Nat} {mi : MI} {mk mv : ME} {sg : L2.St} {H : Hp} {Q : VK} (hv : tgIn vs t = true) (h : rdE G Y (mDc t vs mi mk mv) sg H Q) : tDcO G (rdI G Y mi) (gTg G.K t) tYes (rdE G Y mk) (rdE G Y mv) vs sg H Q := by
  obtain ⟨N, s, e, r, at_, q, k⟩ := h
  unfold mDc at q
  simp only [Option.bind_eq_some_iff, Option.map_eq_some_iff] at q
  obtain ⟨⟨ds, b, r1⟩, h1, ⟨res, r2⟩, h2, h3⟩ := q
  cases h3
  refine ⟨N, s, ds, b, r1, at_, h1, fun pn J H1 x w pins _ it D ob0 hD => ?_⟩
  have nro : D ≠ G.ro := fun z => w.live (z ▸ hD)
  let M : AS := fun z => (Nf N H z ∨ H1 z = none) ∧ z ≠ D
  have M1 : ∀ z, Nf N H z → H1 z ≠ none → M z := fun z h1 h2 => ⟨.inl h1, fun e => h2 (e ▸ hD)⟩
  have slM : SlOk G Y M (L2.wipe sg vs) (wipeS s.sl vs) H1 := by
    have s1 : SlOk G Y (Nf N H) sg s.sl H1 := (at_.sl.wide nf_of fun _ z => z).ext x
    have s2 : SlOk G Y (fun z => Nf N H z ∧ H1 z ≠ none) sg s.sl H1 := s1.less (fun z h1 h2 => ⟨h1, h2⟩) fun z h => h.1
    have s3 : SlOk G Y M sg s.sl H1 := s2.wide (fun z h => M1 z h.1 h.2) fun z h => by
      by_cases hz : H1 z = none
      · exact .inr hz
      · exact .inl ⟨h.1.resolve_right hz, hz⟩
    exact s3.wipe vs
  have pinM : PinsL G M H1 pn := fun q hq => by
    have := pins q hq
    cases q with
    | inl y => exact SlOk.less.Top.less this M1
    | inr y => exact this
  have mro : ¬ M G.ro := fun z => z.1.elim (nro_nf at_.nro at_.row) w.live
  have ext1 : ∀ {H' : Hp}, Ext G H1 H' → ∀ z, H' z = none → z ≠ D → M z := fun x' z h n => ⟨.inr (x'.live z h), n⟩
  refine lc_itD (n := ds.length) it.walk (fun i H' => ∃ r' es acc, Ext G H1 H' ∧ RowAt G H' r' ∧ H' D = some (DO G D es) ∧ RepT G M H' es.2 acc ∧ mDcGo t mk mv (wipeS s.sl vs) (ds.drop i) r' acc = some (res, r2)) ?_ ?_ ?_ ?_
  · exact ⟨r1, (ob0, []), [], Ext.new hD, row_upd hD w w, upd_same, by simp only [RepT], by rw [List.drop_zero]; exact h2⟩
  · rintro i H' hi ⟨r', es, acc, x', _⟩
    exact ⟨M, pinM.fix x' fun _ z => z⟩
  · rintro i v H' H'' hi ⟨r', es, acc, x', w', hDl, racc, hm⟩ ⟨gr, hd⟩
    obtain ⟨d, e1, rx⟩ := hd M (pinM.fix x' fun _ z => z)
    rw [List.drop_eq_getElem_cons hi] at hm
    have e2 : ds[i] = d := by rw [List.getElem?_eq_getElem hi] at e1; exact Option.some.inj e1
    rw [e2] at hm
    simp only [mDcGo, Option.bind_eq_some_iff] at hm
    obtain ⟨sl1, hb1, ⟨ek, r3⟩, hb2, ⟨ev, r4⟩, hb4, hb5⟩ := hm
    simp only at hb5
    split at hb5
    · rename_i hc
      rw [Bool.and_eq_true, Bool.and_eq_true, decide_eq_true_eq] at hc
      have dl : ∀ {H' : Hp} {o : HO}, H' D = some o → ∀ z, H' z = none → z ≠ D := fun h z h2 e => by rw [e, h] at h2; cases h2
      have mf : ∀ z, Nf M H' z → M z := fun z h => h.elim id fun h => ext1 x' z h (dl hDl z h)
      have x'' : Ext G H1 H'' := x'.trans gr.ext
      have hD'' : H'' D = some (DO G D es) := gr.ext.keep D _ hDl nro do_ntbl
      have a2 : At G Y M (L2.wipe sg vs) H'' ⟨wipeS s.sl vs, r'⟩ := ⟨slM.ext x'', gr.row _ w', mro⟩
      refine bind_e a2 (Rep.mono mf rx) hb1 hv fun sg2 hw a3 => ⟨by rw [hw, wipe_wipe], ?_⟩
      simp only [tYes, if_true]
      refine ⟨M, ⟨sl1, r'⟩, ek, r3, a3, hb2, fun y H3 x3 w3 o3 => ⟨M, ⟨sl1, r3⟩, ev, r4, a3.ext x3 w3, hb4, fun z H4 x4 w4 o4 => ?_⟩⟩
      have x13 := x''.trans x3
      have hD3 : H3 D = some (DO G D es) := x3.keep D _ hD'' nro do_ntbl
      have x14 := x13.trans x4
      have hD4 : H4 D = some (DO G D es) := x4.keep D _ hD3 nro do_ntbl
      have ryk : Rep G M H4 y ek.d := by
        have t := top_key hc.1.1 o3.top
        exact (Rep.mono (fun z h => h.elim id fun h => ext1 x'' z h (dl hD'' z h)) t).ext x4
      have ryv : Rep G M H4 z ev.d := Rep.mono (fun z h => h.elim id fun h => ext1 x13 z h (dl hD3 z h)) (nobor_rep o4 hc.1.2)
      obtain ⟨bk, rfl⟩ := key_ref ryk hc.1.1
      have ra4 : RepT G M H4 es.2 acc := RepT.fix (gr.ext.trans (x3.trans x4)).fix (fun _ z => z) _ _ racc
      refine ⟨M, es, acc, ek.d, bk, rfl, hD4, ra4, hc.1.1, ryk, lim_lt (by rw [ra4.len]; exact Nat.le_of_lt hc.2), fun ob => ?_⟩
      have fx : Fix G M H4 (upd H4 D (DO G D (ob, storeE es.2 (nk ek.d) bk z))) := fix_mut hD4 do_ntup fun z => z.2 rfl
      refine ⟨r4, _, putT acc ek.d ev.d, ?_, row_upd hD w w4, upd_same, ?_, hb5⟩
      · refine ⟨fun z o h n t => ?_, fun z xs h => ?_, fun z h => ?_⟩
        · rw [upd_ne (ne_of_none h hD)]; exact x14.keep z o h n t
        · rw [upd_ne (ne_of_none h hD)]; exact x14.tups z xs h
        · by_cases e : z = D
          · rw [e, upd_same] at h; cases h
          · rw [upd_ne e] at h; exact x14.live z h
      · exact RepT.put (RepT.fix fx (fun _ z => z) _ _ ra4) hc.1.1 (Rep.fix fx (fun _ z => z) _ _ ryk) (Rep.fix fx (fun _ z => z) _ _ ryv)
    · cases hb5
  · rintro H' ⟨r', es, acc, x', w', hDl, racc, hm⟩
    rw [List.drop_length] at hm
    cases hm
    exact k _ H' (x.trans x') w' ⟨rfl, D, rfl, x.live D hD, D, es, rfl, nro, hDl, RepT.fix (Ext.refl G H').fix (fun z h => ⟨h.1.elim id fun h => .inr (x.live z h), h.2⟩) _ _ racc⟩
where
  lc_itD {J : It} {n : Nat} {Gd : Hp → Prop} {Yd : Nat → Hp → V → Hp → Prop} (w : Walk J n Gd Yd) {g : TG} {tt : TT} {tk tv : TE} {vs : List Nat} {σ : L2.St} {H1 : Hp} {D : Addr} {o : Obj} {Qd : Hp → Prop} (Pv : Nat → Hp → Prop) (h0 : Pv 0 (upd H1 D (DO G D (o, [])))) (hG : ∀ i H, i ≤ n → Pv i H → Gd H)
    (hs : ∀ i x H H', i < n → Pv i H → Yd i H x H' → g x (wipe σ vs) H' fun σ2 H2 => wipe σ2 vs = wipe σ vs ∧ tt σ2 H2 fun b H3 =>
      if b = true then tk σ2 H3 fun y H4 => tv σ2 H4 fun z H5 => ∃ (M : AS) (es : DE) (l : List (GD.D × GD.D)) (k : GD.D) (b : Addr), y = .ref b ∧ H5 D = some (DO G D es) ∧ RepT G M H5 es.2 l ∧ keyOk k = true ∧ Rep G M H5 (.ref b) k ∧ es.2.length < sizeLine ∧
      ∀ ob, Pv (i + 1) (upd H5 D (DO G D (ob, storeE es.2 (nk k) b z))) else Pv (i + 1) H3) (hd : ∀ H, Pv n H → Qd H) :
    ∃ W : Nat → Nat → Hp → Prop, (∃ m, W 0 m (upd H1 D (DO G D (o, [])))) ∧ ∀ i m H, W i m H →
      (J.stop i H ∧ Qd H) ∨ (J.go i H ∧ ∃ Nx : Hp → Prop, (∀ H', Nx H' → ∃ m', m' < m ∧ W (i + 1) m' H') ∧ ∀ x H', J.yld i H x H' → g x (wipe σ vs) H' fun σ2 H2 => wipe σ2 vs = wipe σ vs ∧ tt σ2 H2 fun b H3 =>
        if b = true then tk σ2 H3 fun y H4 => tv σ2 H4 fun z H5 => ∃ (M : AS) (es : DE) (l : List (GD.D × GD.D)) (k : GD.D) (b : Addr), y = .ref b ∧ H5 D = some (DO G D es) ∧ RepT G M H5 es.2 l ∧ keyOk k = true ∧ Rep G M H5 (.ref b) k ∧ es.2.length < sizeLine ∧
      ∀ ob, Nx (upd H5 D (DO G D (ob, storeE es.2 (nk k) b z))) else Nx H3) := by
    refine ⟨fun i m H => m = n - i ∧ i ≤ n ∧ Pv i H, ⟨n, by simp, Nat.zero_le _, h0⟩, ?_⟩
    rintro i m H ⟨rfl, hi, p⟩
    have q := hG i H hi p
    by_cases hlt : i < n
    · refine .inr ⟨w.goes i H hlt q, Pv (i + 1), fun H' p' => ⟨n - (i + 1), by omega, rfl, hlt, p'⟩, fun x H' y => hs i x H H' hlt p (w.yields i H x H' hlt q y)⟩
    · have e : i = n := by omega
      subst e
      exact .inl ⟨w.stops H q, hd H p⟩
structure DcR (G : GC) (Y : AS) (X : Cx) (kx vx tg iter : Expr) (scope : Scope) (own : List (Str × Nat)) (t : Tg) (mi : MI) (mk mv : ME) : Prop where
  ft : Fit G X
  un : X.A.units + 8 < cLine
  nd : X.N.Nodup
  it : SI G Y X tg iter mi
  ok : BlkOk X.N X.env.scope scope own
  hg : ∀ (s : Shared) (H : Hp) (C : Addr) (cl : List (Str × Addr)) (fp : List Addr), PG (X.blk s H scope (compEnvC scope cl C X.env) fp) tg (gTg G.K t)
  hk : ∀ (s : Shared) (H : Hp) (C : Addr) (cl : List (Str × Addr)) (fp : List Addr), SE G Y (X.blk s H scope (compEnvC scope cl C X.env) fp) kx mk
  he : ∀ (s : Shared) (H : Hp) (C : Addr) (cl : List (Str × Addr)) (fp : List Addr), SE G Y (X.blk s H scope (compEnvC scope cl C X.env) fp) vx mv
  fold : ∀ x, foldedSetIterable iter X.env x = pure x
  tgi : tgIn (own.map (·.2)) t = true
theorem se_dc {t : Tg} {mi : MI} {mk mv : ME} (p : DcR G Y X kx vx tg iter scope own t mi mk mv) : SE G Y X (.DictComp kx vx [⟨tg, iter, [], 0⟩] scope pos) (mDc t (own.map (·.2)) mi mk mv) := by
  refine ⟨fun pins s σ H Q I h => ?_⟩
  rw [arm_eval_DictComp]
  refine dco_core (G := G) p.ft.calm p.nd I p.it p.ok p.hg (fun s H C cl fp => pts_nil) p.hk p.he p.fold p.ft p.un (rd_dc p.tgi h) fun D C s' m H' I' q hn f => ⟨m, hn, fun h'' sb => ?_⟩
  obtain ⟨f0, f1, f2, f3, f4, f5⟩ := f
  exact ⟨.ref D, H', I'.turned (t' := s'.toks) (fun b o hb e => (sb.2 b hb).trans e) f0 f1 f3 f4 f5, rfl, q⟩
/-! ### {} and {k: v} -/
theorem se_dnilT : SE G Y X (.Dict [] [] pos) (fun s => some (⟨.dT [], .new⟩, s.rw)) := ⟨fun pins s σ H Q I h => by
  obtain ⟨N, st, e, r, at_, q, k⟩ := h
  cases q
  have hp : H s.heap.objs.size = none := I.hok.fresh (Nat.le_refl _)
  refine wpAny_Dict_empty ⟨.ref s.heap.objs.size, _, I.laid (a := s.heap.objs.size) (o := DO G s.heap.objs.size (dob, [])) (t' := s.toks) (fun _ _ q => Heap.get?_push_of_some _ q) (Nat.le_refl _) (do_empty s.heap I.big), rfl, ?_⟩
  exact k _ _ (Ext.new hp) ((Grow.new hp).row _ at_.row) ⟨rfl, _, rfl, hp, _, (dob, []), rfl, fun z => at_.row.live (z ▸ hp), upd_same, by simp only [RepT]⟩⟩
theorem se_dnilI : SE G Y X (.Dict [] [] pos) (fun s => some (⟨.dI [], .new⟩, s.rw)) := PE.weak pe_dnewK fun σ H Q h => by
  obtain ⟨N, st, e, r, at_, q, k⟩ := h
  cases q
  intro p hp
  exact k _ _ (Ext.new hp) ((Grow.new hp).row _ at_.row) ⟨rfl, _, rfl, hp, _, [], rfl, fun z => at_.row.live (z ▸ hp), upd_same, by simp only [RepI]⟩
def tD1 (G : GC) (tk tv : TE) : TE := fun σ H Q => ∀ D, H D = none → tk σ (upd H D (DO G D (dob, []))) fun x H1 => tv σ H1 fun y H2 => ∃ (M : AS) (b : Addr) (k : GD.D), x = .ref b ∧ H2 D = some (DO G D (dob, [])) ∧ keyOk k = true ∧ Rep G M H2 (.ref b) k ∧
  ∀ ob, Q (.ref D) (upd H2 D (DO G D (ob, [(nk k, b, y)])))
theorem pe_d1 {k v : Expr} {tk tv : TE} (ft : Fit G X) (hu : X.A.units + 8 < cLine) (hk : PE X k tk) (hv : PE X v tv) : PE X (.Dict [some k] [v] pos) (tD1 G tk tv) := by
  refine ⟨fun pins s σ H Q I h => ?_⟩
  have hn := I.hok.fresh (Nat.le_refl s.heap.objs.size)
  have I1 := I.laid (a := s.heap.objs.size) (o := DO G s.heap.objs.size (dob, [])) (h' := s.heap.push { cls := .type "dict", data := .dict #[] }) (t' := s.toks) (fun _ _ q => Heap.get?_push_of_some _ q) (Nat.le_refl _) (do_empty s.heap I.big)
  rw [arm_eval_Dict]
  have shape : (evalEachOpt [some k] X.env).zip ((evalEach [v] X.env).map fun v => do let x ← v; standAt pos; pure x) = (pairTrees [some k] [v] X.env pos).map (fun p => (some p.1, p.2)) := rfl
  rw [shape, dictDisplay_pairs _ (by simp [pairTrees]) (by simp [pairTrees])]
  refine wpAny_bind (wpAny_standAt (wpAny_bind (wpAny_subDictH (knd := nestedKind X.prog X.w) (Q := fun d s' => wpAny (model X.prog X.w) X.A (pure (Value.ref d)) (EP X pins σ Q) X.xe s') hu (by simp [pairTrees]) ?_)))
  refine pairTrees_cons_walk (thn (hk.run pins _ σ _ _ I1 (h _ hn)) fun u s1 ⟨x, H1, I2, rx, q1⟩ => thn (hv.run pins s1 σ H1 _ I2 q1) fun w2 s2 ⟨y, H2, I3, ry, M, b, kk, e1, e2, ck, rk, q⟩ => pairTrees_nil_walk ?_)
  subst e1
  cases rx
  obtain ⟨_, hm, xs, pr, dd⟩ := do_at (N := M) ft I3 e2 (by simp only [RepT] : RepT G M H2 (dob, []).2 [])
  cases pr
  refine ⟨[(nk kk, b, w2)], ⟨rfl, rfl, Rep.key ft I3 rk ck, trivial⟩, dd, fun h' tk dd' hs => wpAny_pure ?_⟩
  obtain ⟨ob, ok⟩ := do_ok (G := G) (H' := upd H2 s.heap.objs.size (DO G s.heap.objs.size (dob, []))) (es := [(nk kk, b, y)]) ft.P ft.w (by show 1 ≤ sizeLine; decide) hm (.cons ⟨rfl, rfl, ry⟩ .nil) dd'
  refine ⟨.ref s.heap.objs.size, _, ?_, rfl, q ob⟩
  have he : ∃ q, h'.get? s.heap.objs.size = some q := let ⟨q, _, _, hq, _⟩ := dd'; ⟨q, hq⟩
  exact I3.write (x := s.heap.objs.size) (e := s.heap.objs.size) (by rw [e2]; trivial) (.inl rfl) (fun b u hb z => (hs.2 b hb).trans z) he ok
def mD1 (mk mv : ME) : ME := fun s => (mk s).bind fun p => (mv ⟨s.sl, p.2⟩).bind fun q => if (keyOk p.1.d && noBorK q.1) = true then some (⟨.dT [(p.1.d, q.1.d)], .new⟩, q.2) else none
theorem se_d1 {k v : Expr} {mk mv : ME} (ft : Fit G X) (hu : X.A.units + 8 < cLine) (hk : SE G Y X k mk) (hv : SE G Y X v mv) : SE G Y X (.Dict [some k] [v] pos) (mD1 mk mv) := PE.weak (pe_d1 ft hu hk hv) fun sg H Q h => by
  obtain ⟨N, s, e, r, at_, q, kk⟩ := h
  unfold mD1 at q
  simp only [Option.bind_eq_some_iff] at q
  obtain ⟨⟨ek, r1⟩, h1, ⟨ev, r2⟩, h2, h3⟩ := q
  simp only at h3
  split at h3
  · rename_i hc
    cases h3
    rw [Bool.and_eq_true] at hc
    intro D hD
    have w := at_.row
    have nro : D ≠ G.ro := fun z => w.live (z ▸ hD)
    let M : AS := fun z => Nf N H z ∧ z ≠ D
    have M1 : ∀ z, N z → H z ≠ none → M z := fun z h1 h2 => ⟨.inl h1, fun e => h2 (e ▸ hD)⟩
    have g := Grow.new (G := G) (o := DO G D (dob, [])) hD
    have slM : SlOk G Y M sg s.sl H := by
      have s2 : SlOk G Y (fun z => N z ∧ H z ≠ none) sg s.sl H := at_.sl.less (fun z h1 h2 => ⟨h1, h2⟩) fun z h => h.1
      exact s2.wide (fun z h => M1 z h.1 h.2) fun z h => by
        by_cases hz : H z = none
        · exact .inr hz
        · exact .inl ⟨h.1.resolve_right hz, hz⟩
    have mro : ¬ M G.ro := fun z => nro_nf at_.nro at_.row z.1
    have a1 : At G Y M sg (upd H D (DO G D (dob, []))) s := ⟨slM.ext g.ext, g.row _ w, mro⟩
    refine ⟨M, s, ek, r1, a1, h1, fun y H3 x3 w3 o3 => ⟨M, ⟨s.sl, r1⟩, ev, _, a1.ext x3 w3, h2, fun z H4 x4 w4 o4 => ?_⟩⟩
    have hD3 : H3 D = some (DO G D (dob, [])) := x3.keep D _ upd_same nro do_ntbl
    have hD4 : H4 D = some (DO G D (dob, [])) := x4.keep D _ hD3 nro do_ntbl
    have hd1 : ∀ z, (upd H D (DO G D (dob, []))) z = none → M z := fun z h => by
      by_cases e : z = D
      · rw [e, upd_same] at h; cases h
      · rw [upd_ne e] at h; exact ⟨.inr h, e⟩
    have ryk : Rep G M H4 y ek.d := (Rep.mono (fun z h => h.elim id (hd1 z)) (top_key hc.1 o3.top)).ext x4
    have ryv : Rep G M H4 z ev.d := Rep.mono (fun z h => h.elim id fun h => hd1 z (x3.live z h)) (nobor_rep o4 hc.2)
    obtain ⟨bk, rfl⟩ := key_ref ryk hc.1
    refine ⟨M, bk, ek.d, rfl, hD4, hc.1, ryk, fun ob => ?_⟩
    have fx : Fix G M H4 (upd H4 D (DO G D (ob, [(nk ek.d, bk, z)]))) := fix_mut hD4 do_ntup fun z => z.2 rfl
    have x14 := g.ext.trans (x3.trans x4)
    refine kk _ _ ?_ (row_upd hD w w4) ⟨rfl, D, rfl, hD, D, (ob, [(nk ek.d, bk, z)]), rfl, nro, upd_same, ?_⟩
    · refine ⟨fun z o h n t => ?_, fun z xs h => ?_, fun z h => ?_⟩
      · rw [upd_ne (ne_of_none h hD)]; exact x14.keep z o h n t
      · rw [upd_ne (ne_of_none h hD)]; exact x14.tups z xs h
      · by_cases e : z = D
        · rw [e, upd_same] at h; cases h
        · rw [upd_ne e] at h; exact x14.live z h
    · show RepT G (Nd (Nf N H) D) _ [(nk ek.d, bk, z)] [(ek.d, ev.d)]
      simp only [RepT]
      exact ⟨bk, z, [], rfl, hc.1, Rep.fix fx (fun _ z => z) _ _ ryk, Rep.fix fx (fun _ z => z) _ _ ryv, rfl⟩
  · cases h3
end
end GD
/-! Gu -/
set_option maxHeartbeats 4000000
/-! Gu: list, sorted of a dict with tuple keys; dict of a list of pairs. -/
namespace GD
open PySem PySem.Spec PyProof.Rows L2
open Sem (wp)
section
variable {G : GC} {Y : AS} {X : Cx} {pos : Pos} {pins : List (Addr × Obj)} {σ : L2.St} {H : Hp} {s : Shared}
theorem RepT.keysL {M : AS} {H : Hp} : ∀ {l : List (D × D)} {es : List (NestedKey × Addr × V)}, RepT G M H es l → RepL G M H (es.map fun q => V.ref q.2.1) (l.map (·.1))
  | [], es, h => by simp only [RepT] at h; subst h; exact RepL.nil
  | (k, d) :: r, es, h => by
    simp only [RepT] at h
    obtain ⟨p, v, t, rfl, _, h1, _, h2⟩ := h
    exact RepL.cons h1 (RepT.keysL h2)
theorem do_keys {d : Addr} {es : DE} (ft : Fit G X) (I : Inv X pins σ H s) (h : H d = some (DO G d es)) :
    (d == sysModules) = false ∧ es.2.length ≤ sizeLine ∧ ∃ E ep, s.heap.get? d = some es.1 ∧ es.1.ExactDict ∧ es.1.data = .dict E ep ∧ E.size = es.2.length ∧ ∀ acc : Array Value, ItemsOf (fun i v => ∃ en : DictEntry, E[i]? = some en ∧ v = en.key) acc E.size → acc.toList = es.2.map fun q => Value.ref q.2.1 := by
  obtain ⟨⟨z, y, xs, p, E, ep, h1, h2, h3, h4, h5⟩, -, -⟩ := I.hok d _ h
  have hl : es.2.length = xs.length := Paired.length p
  have hsz : E.size = xs.length := by rw [← Array.length_toList, h4, List.length_map]
  refine ⟨y, z, E, ep, h1, h2, h3, by omega, fun acc it => ?_⟩
  have hla : acc.toList.length = es.2.length := by rw [Array.length_toList, it.1]; omega
  apply List.ext_getElem?
  intro j
  rw [List.getElem?_map]
  by_cases hj : j < es.2.length
  · obtain ⟨q, hq⟩ : ∃ q, es.2[j]? = some q := ⟨es.2[j], List.getElem?_eq_getElem hj⟩
    obtain ⟨y0, hy0, r0⟩ := Paired.at p hq
    have hja : j < acc.toList.length := by omega
    obtain ⟨v, hv⟩ : ∃ v, acc.toList[j]? = some v := ⟨_, List.getElem?_eq_getElem hja⟩
    obtain ⟨en, hen, e2⟩ := it.2 j v (by rw [← Array.getElem?_toList]; exact hv)
    have e1 : E.toList[j]? = some en := by rw [Array.getElem?_toList]; exact hen
    rw [h4, List.getElem?_map, hy0] at e1
    have e3 := Option.some.inj e1
    rw [hv, hq, e2, ← e3]
    show some (Value.ref y0.2.1) = some (Value.ref q.2.1)
    rw [r0.2.1]
  · rw [List.getElem?_eq_none (by omega), List.getElem?_eq_none (by omega)]; rfl
theorem vals_keys : ∀ l : List (NestedKey × Addr × V), Vals (l.map fun q => V.ref q.2.1) (l.map fun q => Value.ref q.2.1)
  | [] => .nil
  | _ :: r => .cons rfl (vals_keys r)
/-! list(d) -/
def gListT : D → Option EV
  | .dT l => some ⟨.lst (l.map (·.1)), .new⟩
  | _ => none
def rListT (G : GC) : RC := fun vs H Q => ∃ d es, vs = [.ref d] ∧ H d = some (DO G d es) ∧ ∀ p, H p = none → Q (.ref p) (upd H p (.lst (es.2.map fun q => V.ref q.2.1)))
theorem cr_listT (ft : Fit G X) : CallR X (.type "list") (rListT G) := by
  intro pins s σ H xs us Q I r h
  obtain ⟨d, es, rfl, hd, q⟩ := h
  rw [Vals.ref1 r]
  obtain ⟨hs, z, E, ep, ho, hx, hdt, hsz, key⟩ := do_keys ft I hd
  refine PySem.W.kdl_call (kdl_raw hs hx hdt) (I.ok.hd ft.calm) ho (by omega) fun h' tk acc' c' kp e it => ?_
  have ea := key acc' it
  refine ⟨.ref s.heap.objs.size, _, I.laid (t' := tk) (o := .lst (es.2.map fun q => V.ref q.2.1)) kp (Nat.le_refl _) ?_, rfl, q _ (I.hok.fresh (Nat.le_refl _))⟩
  exact ⟨by rw [List.length_map]; exact z, acc'.toList, c', by rw [ea]; exact vals_keys _, by rw [Array.toArray_toList]; exact e⟩
theorem clr_listT : Clr G (rListT G) (f1 gListT) := Cl1.clr fun M H v d x rw Q q1 q2 q3 q5 k => by
  cases d <;> simp only [gListT] at q5 <;> cases q5
  obtain ⟨a, es, rfl, _, e, r⟩ := q3
  exact ⟨a, es, rfl, e, fun p hp => k _ _ (Grow.new hp) (new_lst hp q1 r.keysL)⟩
/-! sorted(d) -/
def gSortedT : D → Option EV
  | .dT l => if (sortable (l.map (·.1)) && decide (l.length ≤ lim)) = true then some ⟨.lst (isort leD (l.map (·.1))), .new⟩ else none
  | _ => none
def rSortT (G : GC) : RC := fun vs H Q => ∃ (M : AS) (d : Addr) (es : DE) (l : List (D × D)), vs = [.ref d] ∧ H d = some (DO G d es) ∧ RepT G M H es.2 l ∧ (sortable (l.map (·.1)) && decide (l.length ≤ lim)) = true ∧ ∀ p xs, H p = none → RepL G M H xs (isort leD (l.map (·.1))) → Q (.ref p) (upd H p (.lst xs))
/-- a new list of ws, sorted in place -/
theorem sort_new {A : Around} {l : List D} {ws : List Value} {M : AS} {s1 : Shared} {E : Value → Shared → Prop} {Q : Value → Shared → Prop} (ea : PySem.W.EachIs (fun u d => ∃ x, RelV x u ∧ Rep G M H x d) ws l) (er : PySem.W.EachIs (fun v b => ∃ as, Reads s1.heap v (py b) as) ws l)
    (hal : PySem.W.AllAlike (l.map py)) (hk : PySem.W.Sortable (l.map py)) (hz : ws.length ≤ sizeLine) (hu : ∀ b ∈ l, A.in1.units + (py b).depth < cLine)
    (h : ∀ (out : List Value) ep (h2 : Heap), PySem.W.EachIs (fun u d => ∃ x, RelV x u ∧ Rep G M H x d) out (isort leD l) → h2.get? s1.heap.objs.size = some (seqObj "list" out.toArray ep) → (∀ b o, s1.heap.get? b = some o → h2.get? b = some o) → Q .none { s1 with heap := h2 }) :
    wpAny (model X.prog X.w) A (call (.builtin "list.sort") [.ref s1.heap.objs.size]) Q E { s1 with heap := s1.heap.push (seqObj "list" ws.toArray 0) } := by
  have hL : (s1.heap.push (seqObj "list" ws.toArray 0)).get? s1.heap.objs.size = some (seqObj "list" ws.toArray 0) := Heap.get?_push_size _ rfl
  have er' : PySem.W.EachIs (fun v b => ∃ as, Reads (PySem.W.sortingHeap (s1.heap.push (seqObj "list" ws.toArray 0)) s1.heap.objs.size ws) v (py b) as) ws l :=
    er.mono fun _ _ ⟨as, r⟩ => ⟨as, PyProof.Rows.Reads.keeps (fun b o e => PySem.W.sortingHeap_old (Nat.ne_of_lt (Heap.lt_size e)) (Heap.get?_push_of_some _ e)) r⟩
  refine wpAny_call_entry PyProof.Rows.slot_list_sort ⟨_, hL, rfl⟩ PyProof.Rows.entry_list_sort (PySem.W.list_sort_vals (κ := PySem.W.dataKind (PySem.W.sortingHeap (s1.heap.push (seqObj "list" ws.toArray 0)) s1.heap.objs.size ws) (l.map py)) hL
    (PySem.W.SortsAt.data (s := { s1 with heap := PySem.W.sortingHeap (s1.heap.push (seqObj "list" ws.toArray 0)) s1.heap.objs.size ws }) (PySem.W.each_map (R := fun v d => ∃ as, Reads (PySem.W.sortingHeap (s1.heap.push (seqObj "list" ws.toArray 0)) s1.heap.objs.size ws) v d as) py er') hal hk
      (PySem.W.bound_map hu)) hz ⟨.none, rfl, ?_⟩) (PyProof.Rows.args_list_sort _)
  have he := PySem.W.sortVals_data (R := fun u d => ∃ x, RelV x u ∧ Rep G M H x d) (enc := py) false ea er' hal
  rw [← sort_eq] at he
  obtain ⟨ep2, he'⟩ := sortedHeap_at (out := (PySem.W.sortVals (PySem.W.dataKind (PySem.W.sortingHeap (s1.heap.push (seqObj "list" ws.toArray 0)) s1.heap.objs.size ws) (l.map py)) false ws ws).toArray) hL
  refine h _ ep2 _ he he' fun b o e => ?_
  rw [sortedHeap_old (Nat.ne_of_lt (Heap.lt_size e)) (by rw [size_push']; exact Nat.lt_succ_of_lt (Heap.lt_size e))]
  exact Heap.get?_push_of_some _ e
theorem sortable_py {l : List D} (hs : sortable l = true) : PySem.W.AllAlike (l.map py) ∧ PySem.W.Sortable (l.map py) ∧ ∀ d ∈ l, shp d = true ∧ (py d).depth ≤ 8 := by
  simp only [sortable, Bool.and_eq_true] at hs
  obtain ⟨⟨h1, h2⟩, h3⟩ := hs
  refine ⟨?_, ?_, fun d hd => ?_⟩
  · intro d hd d' hd'
    obtain ⟨x, hx, rfl⟩ := List.mem_map.mp hd
    obtain ⟨y, hy, rfl⟩ := List.mem_map.mp hd'
    exact List.all_eq_true.mp (List.all_eq_true.mp h2 x hx) y hy
  · rcases Bool.or_eq_true_iff.mp h1 with h1 | h1
    · refine .inl fun d hd => ?_
      obtain ⟨x, hx, rfl⟩ := List.mem_map.mp hd
      have := List.all_eq_true.mp h1 x hx
      cases x <;> simp [tupNE] at this
      rename_i t
      cases t with
      | nil => simp [tupNE] at this
      | cons y r => exact ⟨py y, pys r, by simp only [py, pys]⟩
    · refine .inr fun d hd => ?_
      obtain ⟨x, hx, rfl⟩ := List.mem_map.mp hd
      have := List.all_eq_true.mp h1 x hx
      cases x <;> simp [isI] at this
      simp [py]
  · have := List.all_eq_true.mp h3 d hd
    simpa only [Bool.and_eq_true, decide_eq_true_eq] using this
theorem each_reads {M : AS} (ft : Fit G X) (I : Inv X pins σ H s) : ∀ {ds : List D} {us : List Value}, (∀ d ∈ ds, shp d = true) → PySem.W.EachIs (fun u d => ∃ x, RelV x u ∧ Rep G M H x d) us ds → PySem.W.EachIs (fun v b => ∃ as, Reads s.heap v (py b) as) us ds := by
  intro ds us hd h
  induction h with
  | nil => exact .nil
  | cons h1 _ ih =>
    obtain ⟨x, r1, r2⟩ := h1
    refine .cons ?_ (ih fun d hd' => hd d (List.mem_cons_of_mem _ hd'))
    have dp := Rep.dp _ x r2 (shp_lay (hd _ List.mem_cons_self))
    rw [← ft.K] at dp
    exact Dp.reads I _ _ _ dp r1
theorem in2_units {A : Around} : A.in1.in1.in1.units = A.units + 3 := rfl
theorem cr_sortT {k : Nat} (ft : Fit G X) (hr : Room k X.A) : CallR X (.builtin "sorted") (rSortT G) := by
  intro pins s σ H vs us Q I r h
  obtain ⟨M, d, es, l0, rfl, hd, rt, hs, q⟩ := h
  rw [Vals.ref1 r]
  obtain ⟨hsm, z, E, ep, ho, hx, hdt, hsz, key0⟩ := do_keys ft I hd
  have rl := rt.keysL
  generalize hl0 : l0.map (·.1) = l at rl hs q
  rw [Bool.and_eq_true, decide_eq_true_eq] at hs
  have rv := vals_keys es.2
  obtain ⟨ws, hws⟩ : ∃ ws, ws = es.2.map fun q => Value.ref q.2.1 := ⟨_, rfl⟩
  rw [← hws] at rv
  have hz : ws.length ≤ sizeLine := by rw [hws, List.length_map]; exact z
  obtain ⟨hal, hk, h3⟩ := sortable_py hs.1
  have ea := vals_each rl rv
  refine PySem.Calls.call_function_entry PyProof.Rows.kind_sorted PyProof.Rows.plain_sorted PyProof.Rows.entry_sorted (PyProof.Rows.args_sorted1 _) ?_
  unfold Builtin.«sorted»
  refine wpAny_bind (m := checkCount "sorted" 1 1 _) (wpAny_pure ?_)
  refine wpAny_bind (PySem.W.kdu_collect (A := X.A.in1) (kdl_raw hsm hx hdt) (I.ok.hd ft.calm) ho (by rw [hsz]; exact z) fun h' tk acc hkp hacc => ?_)
  have e0 := key0 acc hacc
  rw [← hws] at e0
  rw [e0]
  refine wpAny_bind (wpAny_newList ?_ hz)
  have I1 : Inv X pins σ H { s with heap := h', toks := tk } := I.kept hkp
  have hu := hr.un
  refine wpAny_bind (wpAny_holding (sort_new (s1 := { s with heap := h', toks := tk }) ea (each_reads ft I1 (fun d hd => (h3 d hd).1) ea) hal hk hz (fun b hb => ?_) fun out ep2 h2 he hg hkk => ?_))
  · have := (h3 b hb).2
    show X.A.units + 1 + 1 + (py b).depth < cLine
    omega
  · refine wpAny_pure ⟨_, rfl, ?_⟩
    obtain ⟨ys, r1, r2⟩ := each_vals he
    have hlen : ys.length ≤ sizeLine := by rw [r2.len, isort_len, ← hl0, List.length_map]; exact lim_line hs.2
    exact ⟨.ref h'.objs.size, upd H h'.objs.size (.lst ys), I1.laid (t' := tk) hkk (Nat.le_refl _) ⟨hlen, out, ep2, r1, hg⟩, rfl, q _ _ (I1.hok.fresh (Nat.le_refl _)) r2⟩
theorem clr_sortT : Clr G (rSortT G) (f1 gSortedT) := Cl1.clr fun M H v d x rw Q q1 q2 q3 q5 k => by
  cases d <;> simp only [gSortedT] at q5 <;> try cases q5
  rename_i l
  split at q5
  · rename_i hs
    cases q5
    obtain ⟨a, es, rfl, _, e, r⟩ := q3
    exact ⟨M, a, es, l, rfl, e, r, hs, fun p xs hp hx => k _ _ (Grow.new hp) (new_lst hp q1 hx)⟩
  · cases q5
end
end GD
/-! Gv -/
set_option maxHeartbeats 4000000
/-! Gv: set(list of ints). -/
namespace L2
open PySem PySem.Spec PyProof.Rows
section
variable {P : Program} {w : World} {A : Around} {E : Value → Shared → Prop} {s : Shared}
set_option maxRecDepth 100000 in
set_option maxHeartbeats 3200000 in
theorem call_set_lstI {l : Addr} {items : Array Value} (ns : List Int) {Q : Value → Shared → Prop} (hh : A.handled = none) (hl : s.heap.IsList l items) (hit : IntsAre items.toList ns) (hb : ns.length + 1 < scanBound)
    (h : ∀ (h' : Heap) (tk c : Nat), SetR w h' s.heap.objs.size (fun j => decide (j ∈ ns)) c → c ≤ ns.length → (∀ b o, s.heap.get? b = some o → h'.get? b = some o) → Q (.ref s.heap.objs.size) { s with heap := h', toks := tk }) :
    wpAny (model P w) A (call (.type "set") [.ref l]) Q E s := by
  have hisz : items.size = ns.length := by
    have q := IntsAre.length hit
    rw [Array.length_toList] at q
    exact q
  obtain ⟨c, tl, hmro⟩ := F.called_set.mro
  have hmade := F.called_set.made
  have hsub := F.called_set.sub
  refine wpAny_call (codeAny_of_tree ?_)
  show wpAny _ _ (callAny (.type "set") _) _ _ _
  refine wpAny_pure ⟨Code.quiet_builtin _ (by decide +kernel), codeAny_builtin F.entry_type_call ?_⟩
  rw [Around.under_plain (weight_type_call_type "set" [.ref l] []) rfl]
  have h1 := F.called_set.notType
  have h2 := F.called_set.canCreate
  have hct := F.typeCall_set_1 (.ref l)
  repeat (any_goals (first | assumption | wp_step))
  refine codeAny_mono (code_set_led1 (.ref l) (E := E) (Q₁ := fun obj s₁ => obj = .ref s.heap.objs.size ∧ s₁ = { s with heap := s.heap.push { cls := .type "set", dict := none, data := .set #[] 0 (.fresh 0 0 (!w.params.followText "set-order")) } }) ⟨rfl, rfl⟩) fun r s₁ hr => ?_
  cases r with
  | error e => exact hr
  | ok fl =>
    cases fl with
    | ret obj =>
      obtain ⟨rfl, rfl⟩ := hr
      have hS : (s.heap.push { cls := .type "set", dict := none, data := .set #[] 0 (.fresh 0 0 (!w.params.followText "set-order")) }).get? s.heap.objs.size = some { cls := .type "set", dict := none, data := .set #[] 0 (.fresh 0 0 (!w.params.followText "set-order")) } := Heap.get?_push_size _ rfl
      have hT : Shared.TypeIs { s with heap := s.heap.push { cls := .type "set", dict := none, data := .set #[] 0 (.fresh 0 0 (!w.params.followText "set-order")) } } (.ref s.heap.objs.size) "set" := ⟨_, hS, rfl⟩
      have hli := F.called_set.init.lookup
      have hbi := F.called_set.init.bind (.ref s.heap.objs.size)
      repeat (any_goals (first | assumption | wp_step))
      refine codeAny_mono (codeAny_call_builtin (R := wants (fun r s₂ => r = .none ∧ ∃ h' tk c, s₂ = { s with heap := h', toks := tk } ∧ SetR w h' s.heap.objs.size (fun j => decide (j ∈ ns)) c ∧ c ≤ ns.length ∧
          (∀ b o, s.heap.get? b = some o → h'.get? b = some o)) E) F.called_set.init.plain F.entry_set_init (check_set_init_1 hT ?_)) fun r₂ s₂ hr₂ => ?_
      · obtain ⟨ol, hol, hcl, nl, hdl⟩ := hl
        obtain ⟨ocls, odict, odata, oslots⟩ := ol
        simp only at hcl hdl
        subst hcl; subst hdl
        have hol' : (s.heap.push { cls := .type "set", dict := none, data := .set #[] 0 (.fresh 0 0 (!w.params.followText "set-order")) }).get? l = some { cls := .type "list", dict := odict, data := .seq items nl, slots := oslots } := Heap.get?_push_of_some _ hol
        have hsls := F.sub_list_set
        have hslf := F.sub_list_frozenset
        have hne : (Value.type "list" == Value.type "dict") = false := by decide
        have hl1 : (s.heap.push { cls := .type "set", dict := none, data := .set #[] 0 (.fresh 0 0 (!w.params.followText "set-order")) }).IsList l items := ⟨_, hol', rfl, nl, rfl⟩
        unfold Builtin.«set.__init__» noKeywords Builtin.Frozenset.updateFrom
        generalize hPI : pyIter = PI
        wp_walk
        subst hPI
        refine wpAny_pyIter_list hl1 ?_
        refine wpAny_bind (wpAny_runValue ?_)
        have hlS : l < s.heap.objs.size := Heap.lt_size hol
        have hh3 : A.in1.in1.in1.handled = none := by simp [hh]
        have hz1 : (s.heap.push { cls := .type "set", dict := none, data := .set #[] 0 (.fresh 0 0 (!w.params.followText "set-order")) }).objs.size = s.heap.objs.size + 1 := Heap.size_push ..
        have hneI : l ≠ (s.heap.push { cls := .type "set", dict := none, data := .set #[] 0 (.fresh 0 0 (!w.params.followText "set-order")) }).objs.size := by
          rw [Heap.size_push]; exact Nat.ne_of_lt (Nat.lt_succ_of_lt hlS)
        have hSf : s.heap.objs.size ∉ [(s.heap.push { cls := .type "set", dict := none, data := .set #[] 0 (.fresh 0 0 (!w.params.followText "set-order")) }).objs.size, l] := by
          rw [Heap.size_push]; simp only [List.mem_cons, List.mem_singleton, List.not_mem_nil, or_false, not_or]
          exact ⟨Nat.ne_of_lt (Nat.lt_succ_self _), Nat.ne_of_gt hlS⟩
        have hval : ∀ (i : Nat) (v : Value), items[i]? = some v → ∃ k t, ns[i]? = some k ∧ v = .int k t := fun i v hv => by
          have hi : i < ns.length := by rw [← hisz]; exact (Array.getElem?_eq_some_iff.mp hv).1
          obtain ⟨t, e⟩ := PyProof.Rows.IntsAre.int_at hit i v (by rw [Array.getElem?_toList]; exact hv)
          refine ⟨ns[i], t, List.getElem?_eq_getElem hi, ?_⟩
          rw [e, List.getD_eq_getElem?_getD, List.getElem?_eq_getElem hi] <;> rfl
        refine set_update_ints ((Walks.list hh3 _ l hneI items).toS) s.heap.objs.size
          hSf ns hisz hb hval (items.size - 0) 0 _ (by omega) (Nat.zero_le _)
          ⟨⟨_, Heap.get?_push_size _ rfl, rfl, rfl⟩, (hl1.push _)⟩ ?hS0 ?hR
        case hS0 =>
          have hget : ((s.heap.push { cls := .type "set", dict := none, data := .set #[] 0 (.fresh 0 0 (!w.params.followText "set-order")) }).push { cls := .type "list_iterator", data := .fields #[.ref l, .int 0 0] }).get? s.heap.objs.size
              = some { cls := .type "set", dict := none, data := .set #[] 0 (.fresh 0 0 (!w.params.followText "set-order")) } := Heap.get?_push_of_some _ hS
          exact ⟨0, Nat.le_refl 0, setR_new_at hget⟩
        case hR =>
          intro s' c' hm hc' hS'
          obtain ⟨h', g2, d', tk', os'⟩ := s'
          have eg : g2 = s.gens := hm.gens
          have ed : d' = s.drawn := hm.drawn
          have eo : os' = s.os := hm.os
          subst eg; subst ed; subst eo
          show wpAny _ _ _ _ _ _
          refine wpAny_pure ?_
          show wpAny _ _ (ret Value.none) _ _ _
          rw [hisz] at hc'
          refine wpAny_pure ⟨rfl, h', tk', c', rfl, hS', hc', fun b o e => ?_⟩
          have hb0 : b < s.heap.objs.size := Heap.lt_size e
          have hb1 : b ≠ s.heap.objs.size := Nat.ne_of_lt hb0
          have hb2 : b ≠ (s.heap.push { cls := .type "set", dict := none, data := .set #[] 0 (.fresh 0 0 (!w.params.followText "set-order")) }).objs.size := by
            rw [Heap.size_push]; exact Nat.ne_of_lt (Nat.lt_succ_of_lt hb0)
          exact hm.heap b o (by simp only [List.mem_cons, List.mem_singleton, List.not_mem_nil, or_false, not_or]; exact ⟨hb1, hb2⟩) (Heap.get?_push_of_some _ (Heap.get?_push_of_some _ e))
      · cases r₂ with
        | error e => exact hr₂
        | ok fl₂ =>
          cases fl₂ with
          | ret r =>
            obtain ⟨rfl, h', tk, c', rfl, hS', hc', hk'⟩ := hr₂
            repeat (any_goals (first | assumption | wp_step))
            exact h _ _ _ hS' hc' hk'
          | _ => exact hr₂.elim
    | _ => exact hr.elim
end
end L2
/-! Gw -/
set_option maxHeartbeats 4000000
/-! Gw: sorted(set(..)), dict of pairs, index, and more. -/
namespace GD
open PySem PySem.Spec PyProof.Rows L2
open Sem (wp)
section
variable {G : GC} {Y : AS} {X : Cx} {e a b c : Expr} {es : List Expr} {pos : Pos}
/-! ### sorted(set(xs)), xs a list of ints -/
def rSetL (K : PySem.W.Frag) (w : World) : RC := fun vs H Q => ∃ (l : Addr) (ns : List Int), vs = [.ref l] ∧ SqL K H l (ns.map V.int) ∧ ns.length < 64 ∧ ∀ p n, H p = none → n ≤ ns.length → Q (.ref p) (upd H p (SetO w p (fun j => decide (j ∈ ns)) n))
theorem small64 {n : Nat} (h : n < 64) : n + 1 < scanBound := Nat.lt_of_le_of_lt (Nat.succ_le_succ (Nat.le_of_lt h)) (by decide)
theorem cr_setL (hc : X.calm = true) : CallR X (.type "set") (rSetL X.K X.w) := by
  intro pins s σ H vs us Q I r h
  obtain ⟨l, ns, rfl, hl, hn, q⟩ := h
  rw [Vals.ref1 r]
  obtain ⟨its, rv, pl, hz⟩ := I.list hl
  refine call_set_lstI ns (I.ok.hd hc) pl.isList (by simpa using ints_vals rv) (small64 hn) fun h' tk c R hcl hk => ?_
  exact ⟨.ref s.heap.objs.size, _, I.laid (t' := tk) hk (Nat.le_refl _) (setO_new R), rfl, q _ _ (I.hok.fresh (Nat.le_refl _)) hcl⟩
/-- the ints that stand in ns, in order, once each -/
def uniqI : List Int → List Int
  | [] => []
  | i :: r => if i ∈ uniqI r then uniqI r else i :: uniqI r
theorem mem_uniqI {k : Int} : ∀ {l : List Int}, k ∈ uniqI l ↔ k ∈ l
  | [] => Iff.rfl
  | i :: r => by
    unfold uniqI
    split
    · rename_i h
      rw [mem_uniqI, List.mem_cons]
      refine ⟨.inr, fun q => q.elim (fun e => ?_) id⟩
      rw [e]; exact mem_uniqI.mp h
    · rw [List.mem_cons, List.mem_cons, mem_uniqI]
theorem nodup_uniqI : ∀ l : List Int, (uniqI l).Nodup
  | [] => List.nodup_nil
  | i :: r => by
    unfold uniqI
    split
    · exact nodup_uniqI r
    · rename_i h
      exact List.nodup_cons.mpr ⟨h, nodup_uniqI r⟩
def leI (a b : Int) : Bool := decide (a ≤ b)
def setSorted (l : List Int) : List Int := isort leI (uniqI l)
theorem setSorted_eq {l ns : List Int} (h : ns.Pairwise (· < ·)) (m : ∀ k : Int, k ∈ ns ↔ k ∈ l) : ns = setSorted l := by
  have e1 : setSorted l = (uniqI l).mergeSort leI := isort_eq leI (fun a b c h1 h2 => by simp [leI] at *; omega) (fun a b => by simp [leI]; omega) _
  have p1 : (setSorted l).Perm (uniqI l) := by rw [e1]; exact List.mergeSort_perm _ _
  have s1 : (setSorted l).Pairwise (fun a b => leI a b = true) := by
    rw [e1]
    exact List.pairwise_mergeSort (fun a b c h1 h2 => by simp [leI] at *; omega) (fun a b => by simp [leI]; omega) _
  have nd : ns.Nodup := h.imp fun q e => by omega
  have p2 : ns.Perm (uniqI l) := (List.perm_ext_iff_of_nodup nd (nodup_uniqI l)).mpr fun k => (m k).trans mem_uniqI.symm
  refine List.Perm.eq_of_pairwise (le := fun a b : Int => a ≤ b) (fun a b _ _ h1 h2 => by omega) (h.imp fun q => by omega) (s1.imp fun q => of_decide_eq_true q) (p2.trans p1.symm)
def gSetSorted : D → Option EV
  | .lst l => (intsD l).bind fun ns => if ns.length < 64 then some ⟨.lst ((setSorted ns).map D.int), .new⟩ else none
  | _ => none
theorem repL_ints {N : AS} {H : Hp} : ∀ ns : List Int, RepL G N H (ns.map V.int) (ns.map D.int)
  | [] => RepL.nil
  | i :: r => RepL.cons (by simp only [Rep]) (repL_ints r)
def mSetSorted (m : ME) : ME := fun s => (m s).bind fun p => (gSetSorted p.1.d).map fun e => (e, p.2)
theorem se_setSorted {m : ME} {p p2 pos2 : Pos} (ft : Fit G X) (ha : SE G Y X a m) (hg : Gl X "sorted") (hm : X.mg "sorted" = none) (hg2 : Gl X "set") (hm2 : X.mg "set" = none)
    (hv : bootBuiltins "sorted" = some (.builtin "sorted") := by decide +kernel) (hv2 : bootBuiltins "set" = some (.type "set") := by decide +kernel)
    (he2 : starEach [a] X.env = (false, eval a X.env) :: starEach [] X.env := by rfl) (he : starEach [.Call (.Name "set" p2) [a] [] pos2] X.env = (false, eval (.Call (.Name "set" p2) [a] [] pos2) X.env) :: starEach [] X.env := by rfl)
    (hst : (backTo pos (starEach [] X.env)).any (·.1) = false := by rfl) (hst2 : (backTo pos2 (starEach [] X.env)).any (·.1) = false := by rfl) :
    SE G Y X (.Call (.Name "sorted" p) [.Call (.Name "set" p2) [a] [] pos2] [] pos) (mSetSorted m) :=
  PE.weak (pe_callB (cr_sortedSet ft.calm) hg hm hv (pa_cons (pe_callTy (cr_setL ft.calm) hg2 hm2 hv2 (pa_cons ha pa_nil he2) (by decide) (by decide) he2 hst2) pa_nil he) (by decide) (by decide) he hst) fun sg H Q h => by
    obtain ⟨N, st, e, r, at_, q, k⟩ := h
    unfold mSetSorted at q
    simp only [Option.bind_eq_some_iff, Option.map_eq_some_iff] at q
    obtain ⟨⟨⟨d, kd⟩, r1⟩, h1, e1, h2, h3⟩ := q
    cases h3
    cases d <;> simp only [gSetSorted] at h2 <;> try cases h2
    rename_i l
    obtain ⟨ns, h4, h5⟩ := Option.bind_eq_some_iff.mp h2
    split at h5
    · rename_i h64
      cases h5
      refine ⟨N, st, _, _, at_, h1, fun v H1 x w o => ?_⟩
      obtain ⟨p, vs, rfl, ro, e2, rl⟩ := o.top
      have ev := intsD_rep h4 rl
      subst ev
      refine ⟨p, ns, rfl, by rw [ft.K]; exact SqL.of e2, h64, fun p2 n hp hn => ?_⟩
      refine ⟨p2, _, n, rfl, upd_same, Nat.lt_of_le_of_lt hn h64, fun ms p3 hms hmem hlen hp3 => ?_⟩
      have es := setSorted_eq (l := ns) hms fun k => (hmem k).trans (by simp)
      have g := (Grow.new (G := G) (o := SetO X.w p2 (fun j => decide (j ∈ ns)) n) hp).trans (Grow.new (G := G) (o := .lst (ms.map V.int)) hp3)
      have x2 := x.trans g.ext
      have hf3 : H p3 = none := x.live p3 ((Grow.new (G := G) (o := SetO X.w p2 (fun j => decide (j ∈ ns)) n) hp).ext.live p3 hp3)
      refine k _ _ x2 (g.row _ w) ⟨rfl, p3, rfl, hf3, p3, ms.map V.int, rfl, fun z => at_.row.live (z ▸ hf3), upd_same, ?_⟩
      rw [es]
      exact repL_ints _
    · cases h5
end
end GD
/-! Gx -/
set_option maxHeartbeats 4000000
/-! Gx: t[::-1], t * n, xs.index, is None, is not True. -/
namespace GD
open PySem PySem.Spec PyProof.Rows L2
open Sem (wp)
section
variable {prog : Program} {w : World} {A : Around} {E : Value → Shared → Prop} {s : Shared}
theorem fm_congr {α β : Type} {f g : α → Option β} : ∀ {l : List α}, (∀ a ∈ l, f a = g a) → l.filterMap f = l.filterMap g
  | [], _ => rfl
  | a :: l, h => by
    rw [List.filterMap_cons, List.filterMap_cons, h a List.mem_cons_self, fm_congr fun b hb => h b (List.mem_cons_of_mem _ hb)]
theorem rev_all (items : Array Value) : ((List.range items.size).filterMap fun (m : Nat) => items[((items.size : Int) - 1 + (m : Int) * (-1)).toNat]?) = items.toList.reverse := by
  have h : ∀ l : List Value, (List.range l.length).filterMap (fun i => l[i]?) = l := by
    intro l
    induction l with
    | nil => rfl
    | cons a r ih =>
      rw [List.length_cons, List.range_succ_eq_map, List.filterMap_cons, List.filterMap_map]
      simp only [List.getElem?_cons_zero]
      have : ((fun i => (a :: r)[i]?) ∘ Nat.succ) = fun i => r[i]? := by funext i; simp
      rw [this, ih]
  have e := h items.toList.reverse
  rw [List.length_reverse, Array.length_toList] at e
  rw [← e]
  refine (fm_congr fun k hk => ?_).symm
  have hk := List.mem_range.mp hk
  rw [List.getElem?_reverse (by rw [Array.length_toList]; exact hk), Array.length_toList, Array.getElem?_toList]
  congr 1
  omega
theorem sliceApplied_rev {sl : Addr} {vl vu vs : Value} {n : Nat} {Q : Int × Int × Nat → Shared → Prop} (hs : s.heap.IsSliceOf sl vl vu vs) (pl : IsPart vl none) (pu : IsPart vu none) (ps : IsPart vs (some (-1)))
    (h : Q ((n : Int) - 1, -1, n) s) : wpAny (model prog w) A (Builtin.Slice.sliceApplied (.ref sl) (pure (n : Int))) Q E s := by
  obtain ⟨os, hos, hcs, hds⟩ := id hs
  unfold Builtin.Slice.sliceApplied Builtin.Slice.sliceFields
  refine wpAny_bind (wpAny_bind (wpAny_field hos hds (x := vl) rfl (wpAny_bind (wpAny_field hos hds (x := vu) rfl (wpAny_bind (wpAny_field hos hds (x := vs) rfl (wpAny_pure ?_)))))))
  refine wpAny_bind (HT.slicePart_ ps ?_)
  show wpAny _ _ (if ((-1 : Int) == 0) = true then _ else _) _ _ s
  rw [if_neg (by decide)]
  refine wpAny_bind (HT.slicePart_ pl (wpAny_bind (HT.slicePart_ pu (wpAny_bind (wpAny_pure ?_)))))
  have e : Builtin.Slice.sliceAdjust none none (-1) (n : Int) = ((n : Int) - 1, -1) := by
    unfold Builtin.Slice.sliceAdjust
    rfl
  have e2 : Builtin.Slice.slicePlaces ((n : Int) - 1) (-1) (-1) = n := by
    unfold Builtin.Slice.slicePlaces
    have h1 : ¬ ((-1 : Int) > 0) := by omega
    simp only [h1, if_false]
    have h2 : - (-1 : Int) = 1 := rfl
    rw [h2, Int.ediv_one]
    split <;> omega
  show wpAny _ _ (match Builtin.Slice.sliceAdjust none none (-1) (n : Int) with | (lo, hi) => pure (lo, (-1 : Int), Builtin.Slice.slicePlaces lo hi (-1))) _ _ s
  rw [e]
  show wpAny _ _ (pure ((n : Int) - 1, (-1 : Int), Builtin.Slice.slicePlaces ((n : Int) - 1) (-1) (-1))) _ _ s
  rw [e2]
  exact wpAny_pure h
theorem getItem_tuple_rev {t sl : Addr} {items : Array Value} {vl vu vs : Value} {Q : Value → Shared → Prop} (ht : IsTup s.heap t items) (hs : s.heap.IsSliceOf sl vl vu vs) (pl : IsPart vl none) (pu : IsPart vu none) (ps : IsPart vs (some (-1)))
    (h : Q (.ref s.heap.objs.size) { s with heap := s.heap.push { cls := .type "tuple", data := .seq items.toList.reverse.toArray } }) (hsz : items.size ≤ sizeLine) : wpAny (model prog w) A (getItem (.ref t) (.ref sl)) Q E s := by
  have htake : sizeOk (.seq items.toList.reverse.toArray) := by
    show items.toList.reverse.toArray.size ≤ sizeLine
    rw [List.size_toArray, List.length_reverse, Array.length_toList]
    exact hsz
  obtain ⟨os, hos, hcs, hds⟩ := id hs
  have hTs : s.TypeIs (.ref sl) "slice" := ⟨os, hos, hcs⟩
  unfold getItem
  try with_reducible refine wpAny_holding ?_
  first | refine wpAny_bind (wpAny_pure ?_) | skip
  refine wpAny_bind (wpAny_sequenceKey ht.typeIs (by decide) ?_)
  refine wpAny_bind (wpAny_callSpecial?_slot (name := Str.ofString "__getitem__") ht.typeIs PyProof.Rows.slot_tuple_getitem
    (wpAny_call_entry PyProof.Rows.slot_tuple_getitem ht.typeIs PyProof.Rows.entry_tuple_getitem ?_ (PyProof.Rows.args_tuple_getitem _ _)))
  show wpAny _ _ (Builtin.Tuple.tupleItemsOf (.ref t) >>= _) _ _ s
  refine wpAny_bind (tupleItemsOf_ ht ?_)
  refine wpAny_bind (wpAny_typeOf hTs ?_)
  rw [if_pos (by decide)]
  refine wpAny_bind (sliceApplied_rev hs pl pu ps ?_)
  have hno : ¬ ((((items.size : Int) - 1) == 0 && (-1 : Int) == 1 && items.size == items.size) = true) := by
    intro q
    rw [Bool.and_eq_true, Bool.and_eq_true] at q
    exact absurd q.1.2 (by decide)
  show wpAny _ _ (if (((items.size : Int) - 1) == 0 && (-1 : Int) == 1 && items.size == items.size) = true then _ else _) _ _ s
  rw [if_neg hno, rev_all]
  first
    | exact wpAny_bind (m := Builtin.Tuple.tupleExact _) (wpAny_newObj_type (wpAny_pure ⟨_, rfl, wpAny_pure h⟩) htake)
    | exact wpAny_bind (m := Builtin.Tuple.tupleExact _) (wpAny_newObj_type (wpAny_bind (wpAny_pure (wpAny_pure ⟨_, rfl, wpAny_pure h⟩))) htake)
    | exact wpAny_bind (wpAny_bind (m := Builtin.Tuple.tupleExact _) (wpAny_newObj_type (wpAny_pure (wpAny_pure ⟨_, rfl, wpAny_pure h⟩)) htake))
    | exact wpAny_bind (wpAny_bind (m := Builtin.Tuple.tupleExact _) (wpAny_newObj_type (wpAny_pure ⟨_, rfl, wpAny_pure h⟩) htake))
theorem tuple_mulS (l : Addr) (items : Array Value) (n : Nat) (dd : Option Addr) (sl : Array (Option Value)) (u : Tok) :
    Meets (Builtin.«tuple.__mul__» ⟨[.ref l, .int 1 u], []⟩) (fun _ R s => s.heap.get? l = some { cls := .type "tuple", dict := dd, data := .seq items n, slots := sl } ∧ R (.ok (.ret (Value.ref l))) s) :=
  .of_wp fun prog w A R s h => by
    obtain ⟨hp, g, d, tk, os⟩ := s
    obtain ⟨hl, h⟩ := h
    have f1 := AutoSeq1.idx_int
    wp_walk using wpAny_loadPart' hl
    repeat (first
      | (refine wpAny_ite_true (by simp) ?_; wp_walk using wpAny_loadPart' hl)
      | (refine wpAny_ite_false (by simp) ?_; wp_walk using wpAny_loadPart' hl))
    exact ⟨_, rfl, h⟩
end
section
variable {G : GC} {Y : AS} {X : Cx} {e : Expr} {pos : Pos}
/-! ### t[::-1] -/
def tRevT (K : PySem.W.Frag) (te : TE) : TE := fun σ H Q => te σ H fun x H1 => ∃ a xs, x = .ref a ∧ SqT K H1 a xs ∧ ∀ p, H1 p = none → Q (.ref p) (upd H1 p (.tup xs.reverse))
theorem pe_revT {te : TE} {k : Nat} {p1 p2 p3 : Pos} (he : PE X e te) : PE X (.Subscript e (.Slice none none (some (.UnaryOp .USub (.Constant (.int 1) k p1) p2)) p3) pos) (tRevT X.K te) := by
  refine ⟨fun pins s σ H Q I h => ?_⟩
  refine Subscript_ (thn (he.run pins s σ H _ I h) fun v s1 ⟨x, H1, I1, r1, q1⟩ => ?_)
  obtain ⟨a, xs, ex, hx, q⟩ := q1
  subst ex
  cases r1
  have hst : PO X (some (.UnaryOp .USub (.Constant (.int 1) k p1) p2)) (tPart (tUn (rU fun i => .int (-i)) (tC (.int 1)))) := po_some (pe_un un_neg pe_int)
  refine wpAny_Slice (thn (po_none.run pins s1 σ H1 (fun o H2 => o = none ∧ H2 = H1) I1 ⟨rfl, rfl⟩) fun vl s2 ⟨l, H2, I2, pl, el, e2⟩ => ?_)
  subst el e2
  refine thn (po_none.run pins s2 σ H2 (fun o H3 => o = none ∧ H3 = H2) I2 ⟨rfl, rfl⟩) fun vu s3 ⟨u, H3, I3, pu, eu, e3⟩ => ?_
  subst eu e3
  refine thn (hst.run pins s3 σ H3 (fun o H4 => o = some (-1) ∧ H4 = H3) I3 ⟨1, rfl, -1, rfl, rfl, rfl⟩) fun vs s4 ⟨o, H4, I4, ps, eo, e4⟩ => ?_
  subst eo e4
  have I5 : Inv X pins σ H4 { s4 with heap := s4.heap.push { cls := .type "slice", data := .fields #[vl, vu, vs] } } := I4.kept (t' := s4.toks) fun b ob q => Heap.get?_push_of_some _ q
  obtain ⟨its, r, ht, hz⟩ := I5.tuple hx
  have hlen := r.length
  show wpAny (model X.prog X.w) X.A (subscriptTail e (.Slice none none (some (.UnaryOp .USub (.Constant (.int 1) k p1) p2)) p3) (.ref a) (.ref s4.heap.objs.size)) (EP X pins σ Q) X.xe { s4 with heap := s4.heap.push { cls := .type "slice", data := .fields #[vl, vu, vs] } }
  refine tail_any (ops := [.ref a, .ref s4.heap.objs.size]) ht.typeIs PyProof.Rows.slot_tuple_getitem.lookup ?_ (by with_unfolding_all rfl)
  refine getItem_tuple_rev ht (Heap.IsSliceOf.new _ vl vu vs) pl pu ps ?_ (by rw [List.size_toArray]; omega)
  refine ⟨.ref _, _, I5.laid (t' := s4.toks) (o := .tup xs.reverse) (fun b ob q => Heap.get?_push_of_some _ q) (Nat.le_refl _) ?_, rfl, q _ (I5.hok.fresh (Nat.le_refl _))⟩
  exact ⟨by rw [List.length_reverse]; exact hz, _, r.reverse, IsTup.new _ _⟩
def mRevT (m : ME) : ME := fun s => (m s).bind fun p => match p.1.d with
  | .tup l => some (datE (.tup l.reverse), p.2)
  | _ => none
theorem se_revT {m : ME} {k : Nat} {p1 p2 p3 : Pos} (ft : Fit G X) (he : SE G Y X e m) : SE G Y X (.Subscript e (.Slice none none (some (.UnaryOp .USub (.Constant (.int 1) k p1) p2)) p3) pos) (mRevT m) :=
  PE.weak (pe_revT he) fun sg H Q h => by
    obtain ⟨N, s, e, r, at_, q, k⟩ := h
    unfold mRevT at q
    simp only [Option.bind_eq_some_iff] at q
    obtain ⟨⟨⟨d, kd⟩, r1⟩, h1, h2⟩ := q
    cases d <;> simp only at h2 <;> try cases h2
    refine ⟨N, s, _, r, at_, h1, fun v H1 x w o => ?_⟩
    obtain ⟨a, vs, rfl, ea, ra⟩ := o.top.tup
    refine ⟨a, vs, rfl, by rw [ft.K]; exact SqT.of ea, fun p hp => ?_⟩
    exact k _ _ (x.trans (Grow.new hp).ext) ((Grow.new hp).row _ w) ((new_tup hp (RepL.reverse ra)).base x)
/-! ### t * n -/
def fRepT : D → D → Option EV
  | .tup l, .int k => if (!l.isEmpty && decide (1 ≤ k ∧ k ≤ 1000) && decide (l.length ≤ 1000)) = true then some (datE (.tup (List.replicate k.toNat l).flatten)) else none
  | _, _ => none
def rRep1 (K : PySem.W.Frag) : R2 := fun x y H Q => ∃ l xs, x = .ref l ∧ y = .int 1 ∧ SqT K H l xs ∧ Q (.ref l) H
theorem op_rep1 : OpR X (binaryOp .Mult) (rRep1 X.K) := by
  intro pins s σ H x y v u Q I rx ry h
  obtain ⟨l, xs, rfl, rfl, hT, q⟩ := h
  cases rx
  obtain ⟨t, rfl⟩ := ry
  obtain ⟨its, r, ⟨⟨cls, dd, data, sl⟩, ho, hc, n, hd⟩, hs⟩ := I.tuple hT
  simp only at hc hd
  subst hc hd
  refine wpAny_binaryOp_repeat_ref (T := "tuple") (U := "int") (by decide) ⟨_, ho, rfl⟩ (fun s' => typeIs_int s' 1 t) noFill_tuple_mul F.fills_int_mul F.slot_int_rmul repeat_tuple F.slot_int_index.lookup
    (call_meets F.slot_int_rmul (typeIs_int s 1 t) F.entry_int_rmul (F.args_int_rmul_2 _ _) (int_rmul_tuple 1 t l its.toArray n dd sl)
      ⟨ho, rfl, ⟨_, ho, rfl⟩, call_meets F.slot_tuple_mul ⟨_, ho, rfl⟩ F.entry_tuple_mul (F.args_tuple_mul_2 _ _) (tuple_mulS l its.toArray n dd sl t) ⟨ho, ?_⟩⟩)
  exact ⟨.ref l, H, I, rfl, q⟩
theorem opr_repT : Opr G (fun x y H Q => rRepT G.K x y H Q ∨ rRep1 G.K x y H Q) fRepT := by
  intro M H v w d e x rw Q q1 q2 q3 q4 q5 k
  cases d <;> cases e <;> simp only [fRepT] at q5 <;> try cases q5
  rename_i l i
  split at q5
  · rename_i hc
    cases q5
    rw [Bool.and_eq_true, Bool.and_eq_true, decide_eq_true_eq, decide_eq_true_eq] at hc
    obtain ⟨⟨h1, h2⟩, h3⟩ := hc
    have e2 : w = .int i := by simpa only [Top, Rep] using q4
    obtain ⟨a, vs, rfl, ea, ra⟩ := q3.tup
    by_cases h : i = 1
    · subst h
      refine .inr ⟨a, vs, rfl, e2, SqT.of ea, ?_⟩
      have : (List.replicate (Int.toNat 1) l).flatten = l := by simp
      rw [this] at k
      exact k _ _ (Grow.refl G H) (tup_ok ea (ra.mono nf_of))
    · refine .inl ⟨a, i, vs, rfl, e2, SqT.of ea, ?_, by omega, h2.2, by rw [ra.len]; exact h3, fun p hp => ?_⟩
      · rintro rfl
        have := ra.len
        cases l with
        | nil => simp at h1
        | cons _ _ => simp at this
      · refine k _ _ (Grow.new hp) (new_tup hp ?_)
        generalize i.toNat = n
        induction n with
        | zero => exact RepL.nil
        | succ n ih => rw [List.replicate_succ, List.flatten_cons, List.replicate_succ, List.flatten_cons]; exact RepL.append ra ih
  · cases q5
end
end GD
/-! Gy -/
set_option maxHeartbeats 4000000
/-! Gy: the rules as the printer takes them. -/
namespace GD
open PySem L2
/-- what a place asks: the fixed part, the room -/
structure Ct (G : GC) (X : Cx) (k : Nat) : Prop where
  ft : Fit G X
  hr : Room k X.A
  nd : X.N.Nodup
section
variable {G : GC} {Y : AS} {X : Cx} {e a b c : Expr} {es : List Expr} {pos : Pos} {k : Nat}
theorem Ct.u65 (h : Ct G X k) : X.A.units + 65 < cLine := by have := h.hr.un; omega
theorem Ct.u64 (h : Ct G X k) : X.A.units + 64 < cLine := by have := h.hr.un; omega
theorem Ct.u8 (h : Ct G X k) : X.A.units + 8 < cLine := by have := h.hr.un; omega
theorem Ct.u0 (h : Ct G X k) : X.A.units < cLine := by have := h.hr.un; omega
theorem Ct.mono {j : Nat} (h : Ct G X k) (q : j ≤ k) : Ct G X j := ⟨h.ft, h.hr.mono q, h.nd⟩
theorem Ct.blk {s : Shared} {H : Hp} {scope : Scope} {cenv : Env} {fp : List Addr} (h : Ct G X k) : Ct G (X.blk s H scope cenv fp) k := ⟨⟨h.ft.P, h.ft.w, h.ft.K, h.ft.calm⟩, h.hr, h.nd⟩
theorem Ct.gx {A : Around} {s : Shared} {H : Hp} {cenv : Env} {fp : List Addr} {pn : List (Addr × Obj)} {j : Nat} (h : Ct G X k) (r : Room j (A.deeper cenv)) : Ct G (gxC X A s H cenv fp pn) j := ⟨⟨h.ft.P, h.ft.w, h.ft.K, h.ft.calm⟩, r, h.nd⟩
/-! ### operators -/
def fAdd (x y : D) : Option EV := (fInt (fun i j => some (evI (i + j))) x y).or ((fCatL x y).or (fCatT x y))
def fSub : D → D → Option EV := fInt fun i j => some (evI (i - j))
def fMulI : D → D → Option EV := fInt fun i j => if decide (-(2 ^ 64) < j ∧ j < 2 ^ 64) = true then some (evI (i * j)) else none
def fMul (x y : D) : Option EV := (fMulI x y).or (fRepT x y)
def fDiv : D → D → Option EV := fInt fun i j => if decide (0 < j ∧ j < 1073741824) = true then some (evI (i / j)) else none
def fMod : D → D → Option EV := fInt fun i j => if decide (0 < j) = true then some (evI (i % j)) else none
theorem se_add (h : Ct G X k) {ma mb : ME} (ha : SE G Y X a ma) (hb : SE G Y X b mb) : SE G Y X (.BinOp a .Add b pos) (mBin fAdd ma mb) :=
  se_bin (op_add.or (op_cat.or op_catA)) (by rw [h.ft.K]; exact opr_int0.or (opr_catL.or opr_catT)) ha hb
theorem se_sub {ma mb : ME} (ha : SE G Y X a ma) (hb : SE G Y X b mb) : SE G Y X (.BinOp a .Sub b pos) (mBin fSub ma mb) := se_bin op_sub opr_int0 ha hb
theorem se_mul (h : Ct G X k) {ma mb : ME} (ha : SE G Y X a ma) (hb : SE G Y X b mb) : SE G Y X (.BinOp a .Mult b pos) (mBin fMul ma mb) :=
  se_bin (op_mul.or (op_repT.or op_rep1)) (by rw [h.ft.K]; exact (opr_int fun i j q => .inr (of_decide_eq_true q)).or opr_repT) ha hb
theorem se_div {ma mb : ME} (ha : SE G Y X a ma) (hb : SE G Y X b mb) : SE G Y X (.BinOp a .FloorDiv b pos) (mBin fDiv ma mb) := se_bin op_fdiv (opr_int fun i j q => by
    have q2 : 0 < j ∧ j < 1073741824 := of_decide_eq_true q
    exact q2) ha hb
theorem se_mod {ma mb : ME} (ha : SE G Y X a ma) (hb : SE G Y X b mb) : SE G Y X (.BinOp a .Mod b pos) (mBin fMod ma mb) := se_bin op_mod (opr_int fun i j q => of_decide_eq_true q) ha hb
def mNeg (m : ME) : ME := fun s => (m s).bind fun p => match p.1.d with
  | .int i => some (evI (-i), p.2)
  | _ => none
theorem se_neg {m : ME} (ha : SE G Y X a m) : SE G Y X (.UnaryOp .USub a pos) (mNeg m) := PE.weak (pe_un un_neg ha) fun sg H Q h => by
  obtain ⟨N, s, e, r, at_, q, k⟩ := h
  unfold mNeg at q
  simp only [Option.bind_eq_some_iff] at q
  obtain ⟨⟨⟨d, kd⟩, r1⟩, h1, h2⟩ := q
  cases d <;> simp only at h2 <;> try cases h2
  exact ⟨N, s, _, r, at_, h1, fun v H1 x w o => ⟨_, ev_int o, k _ H1 x w ok_int⟩⟩
/-! ### comparisons -/
def fLtI : D → D → Option EV := fInt fun i j => some (evB (decide (i < j)))
def fLe : D → D → Option EV := fInt fun i j => some (evB (decide (i ≤ j)))
def fGt : D → D → Option EV := fInt fun i j => some (evB (decide (j < i)))
def fGe : D → D → Option EV := fInt fun i j => some (evB (decide (j ≤ i)))
def fLtT : D → D → Option EV
  | .tup l, .tup m => (intsD l).bind fun ns => (intsD m).map fun ms => evB (HT.lexLt ns ms)
  | _, _ => none
theorem opr_ltT : Opr G (rLtT G.K) fLtT := by
  intro M H v w d e x rw Q q1 q2 q3 q4 q5 k
  cases d <;> cases e <;> simp only [fLtT] at q5 <;> try cases q5
  simp only [Option.bind_eq_some_iff, Option.map_eq_some_iff] at q5
  obtain ⟨ns, h1, ms, h2, rfl⟩ := q5
  obtain ⟨a, vs, rfl, ea, ra⟩ := q3.tup
  obtain ⟨b, us, rfl, eb, rb⟩ := q4.tup
  have e1 := intsD_rep h1 ra
  have e2 := intsD_rep h2 rb
  subst e1 e2
  exact ⟨a, b, ns, ms, rfl, rfl, SqT.of ea, SqT.of eb, k _ H (Grow.refl G H) ok_bl⟩
def fLt (x y : D) : Option EV := (fLtI x y).or (fLtT x y)
theorem op_ltA (h : Ct G X k) : OpR X (compareOp .Lt) (fun x y H Q => rI0 (fun i j => .bl (decide (i < j))) x y H Q ∨ rLtT X.K x y H Q) := op_lt.or (op_ltT h.u0)
theorem opr_ltA (h : Ct G X k) : Opr G (fun x y H Q => rI0 (fun i j => .bl (decide (i < j))) x y H Q ∨ rLtT X.K x y H Q) fLt := by rw [h.ft.K]; exact opr_intB.or opr_ltT
def fIn (neg : Bool) (x y : D) : Option EV := (fInT neg x y).or ((fInL neg x y).or (fInD neg x y))
theorem op_inA (h : Ct G X k) : OpR X (compareOp .In) (fun x y H Q => rInTup X.K false x y H Q ∨ rInLst X.K false x y H Q ∨ rInDO G false x y H Q) := (op_inTup h.u65).or ((op_inLst h.u65).or (op_inDO h.ft h.hr))
theorem op_ninA (h : Ct G X k) : OpR X (compareOp .NotIn) (fun x y H Q => rInTup X.K true x y H Q ∨ rInLst X.K true x y H Q ∨ rInDO G true x y H Q) := (op_notInTup h.u65).or ((op_notInLst h.u65).or (op_notInDO h.ft h.hr))
theorem opr_inA {neg : Bool} (h : Ct G X k) : Opr G (fun x y H Q => rInTup X.K neg x y H Q ∨ rInLst X.K neg x y H Q ∨ rInDO G neg x y H Q) (fIn neg) := by rw [h.ft.K]; exact opr_inT.or (opr_inL.or opr_inD)
def isNon : D → Bool
  | .non => true
  | _ => false
def fIsN (x y : D) : Option EV := if isNon y = true then some (evB (isNon x)) else none
theorem opr_isN : Opr G (fun x y H Q => y = .non ∧ Q (.bl (decide (x = .non))) H) fIsN := by
  intro M H v w d e x rw Q q1 q2 q3 q4 q5 k
  unfold fIsN at q5
  cases e <;> simp [isNon] at q5
  subst q5
  have e2 : w = .non := by simpa only [Top, Rep] using q4
  refine ⟨e2, ?_⟩
  have : decide (v = V.non) = isNon d := by
    cases d with
    | non => have : v = .non := by simpa only [Top, Rep] using q3
             subst this; rfl
    | bl b => have : v = .bl b := by simpa only [Top, Rep] using q3
              subst this; rfl
    | int b => have : v = .int b := by simpa only [Top, Rep] using q3
               subst this; rfl
    | row => have : v = .ref G.ro := by simpa only [Top, Rep] using q3
             subst this; rfl
    | tup l => obtain ⟨a, vs, rfl, _⟩ := q3.tup; rfl
    | lst l => obtain ⟨a, vs, rfl, _⟩ := q3; rfl
    | dI l => obtain ⟨a, vs, rfl, _⟩ := q3; rfl
    | dT l => obtain ⟨a, vs, rfl, _⟩ := q3; rfl
  rw [this]
  exact k _ H (Grow.refl G H) ok_bl
def fIsNB : D → D → Option EV
  | .bl a, .bl b => some (evB (!decide (a = b)))
  | _, _ => none
theorem opr_isNB : Opr G rNotB fIsNB := by
  intro M H v w d e x rw Q q1 q2 q3 q4 q5 k
  cases d <;> cases e <;> simp only [fIsNB] at q5 <;> cases q5
  rename_i x y
  have e1 : v = .bl x := by simpa only [Top, Rep] using q3
  have e2 : w = .bl y := by simpa only [Top, Rep] using q4
  exact ⟨x, y, e1, e2, k _ H (Grow.refl G H) ok_bl⟩
/-! ### subscripts -/
def rIxI : R2 := fun x y H Q => ∃ (p : Addr) (kvs : List (Key × V)) (i : Int) (v : V), x = .ref p ∧ y = .int i ∧ H p = some (.dK kvs) ∧ valV kvs (Sum.inl i) = some v ∧ Q v H
theorem ix_dI (h : Ct G X k) : IxR X rIxI := by
  intro value slice pins s σ H x y v u Q I rx ry hh hs
  obtain ⟨p, kvs, i, v0, rfl, rfl, e, l, q⟩ := hh
  cases rx
  have g : DGet H p (.int i) (some v0) := by have := DGet.k (k := Sum.inl i) e; rw [l] at this; exact this
  refine PyProof.Rows.tail_any (dict_typeIs I g) PySem.F.slot_dict_getitem.lookup (d_getItem (by have := h.u8; omega) I g ry fun w' s' I' r' => ⟨v0, H, I', r', q⟩) hs
def lookI (l : List (Int × D)) (i : Int) : Option D := (l.find? fun p => decide (p.1 = i)).map (·.2)
def fIxI : D → D → Option EV
  | .dI l, .int i => (lookI l i).map datE
  | _, _ => none
theorem lookI_rel {M : AS} {H : Hp} {i : Int} : ∀ {l : List (Int × D)} {ks : List (Key × V)} {d : D}, RepI G M H ks l → lookI l i = some d → ∃ v, valV ks (Sum.inl i) = some v ∧ Rep G M H v d
  | [], ks, d, r, h => by simp [lookI] at h
  | (j, e) :: l, ks, d, r, h => by
    simp only [RepI] at r
    obtain ⟨v, t, rfl, r1, r2⟩ := r
    by_cases hj : j = i
    · subst hj
      simp [lookI] at h
      subst h
      exact ⟨v, by simp [valV], r1⟩
    · have h' : lookI l i = some d := by simpa [lookI, hj] using h
      obtain ⟨u, h1, h2⟩ := lookI_rel r2 h'
      exact ⟨u, by simpa [valV, hj] using h1, h2⟩
theorem opr_ixI : Opr G rIxI fIxI := by
  intro M H v w d e x rw Q q1 q2 q3 q4 q5 k
  cases d <;> cases e <;> simp only [fIxI] at q5 <;> try cases q5
  rename_i l i
  obtain ⟨y, h1, rfl⟩ := Option.map_eq_some_iff.mp q5
  obtain ⟨a, ks, rfl, _, ea, ra⟩ := q3
  have e2 : w = .int i := by simpa only [Top, Rep] using q4
  obtain ⟨u, h2, h3⟩ := lookI_rel ra h1
  exact ⟨a, ks, i, u, rfl, e2, ea, h2, k u H (Grow.refl G H) (dat_ok h3)⟩
def fIx (x y : D) : Option EV := (fIxL x y).or ((fIxT x y).or ((fIxD x y).or (fIxI x y)))
theorem se_at (h : Ct G X k) {ma mb : ME} (ha : SE G Y X a ma) (hb : SE G Y X b mb) (hs : PlainIx b := by intro _ _; rfl) : SE G Y X (.Subscript a b pos) (mBin fIx ma mb) :=
  se_ix (ix_list.or (ix_tup.or ((ix_do h.ft h.hr).or (ix_dI h)))) (by rw [h.ft.K]; exact opr_ixL.or (opr_ixT.or (opr_ixD.or opr_ixI))) ha hb hs
end
end GD
/-! Gz -/
set_option maxHeartbeats 4000000
/-! Gz: calls, loops, defs as the printer takes them. -/
namespace GD
open PySem L2
/-- the names of built-ins are free in the module -/
structure Nm (mg : Str → Option Value) : Prop where
  len : mg "len" = none
  int : mg "int" = none
  bool : mg "bool" = none
  tuple : mg "tuple" = none
  list : mg "list" = none
  str : mg "str" = none
  dict : mg "dict" = none
  set : mg "set" = none
  sum : mg "sum" = none
  max : mg "max" = none
  all : mg "all" = none
  any : mg "any" = none
  sorted : mg "sorted" = none
  range : mg "range" = none
  enumerate : mg "enumerate" = none
  zip : mg "zip" = none
  isinstance : mg "isinstance" = none
section
variable {G : GC} {Y : AS} {X : Cx} {e a b c tg : Expr} {es : List Expr} {pos p : Pos} {k : Nat}
theorem SE.or {m1 m2 : ME} (h1 : SE G Y X e m1) (h2 : SE G Y X e m2) : SE G Y X e (fun s => (m1 s).or (m2 s)) := ⟨fun pins s sg H Q I q => by
  obtain ⟨N, st, x, r, at_, hq, kk⟩ := q
  have hq : (m1 st).or (m2 st) = _ := hq
  cases h : m1 st with
  | some y =>
    rw [h] at hq
    cases hq
    exact h1.run pins s sg H Q I ⟨N, st, x, r, at_, h, kk⟩
  | none =>
    rw [h] at hq
    exact h2.run pins s sg H Q I ⟨N, st, x, r, at_, hq, kk⟩⟩
theorem SI.or {m1 m2 : MI} (h1 : SI G Y X tg e m1) (h2 : SI G Y X tg e m2) : SI G Y X tg e (fun s => (m1 s).or (m2 s)) := ⟨fun pins s sg H Q I q => by
  obtain ⟨N, st, x, b, r, at_, hq, kk⟩ := q
  have hq : (m1 st).or (m2 st) = _ := hq
  cases h : m1 st with
  | some y =>
    rw [h] at hq
    cases hq
    exact h1.run pins s sg H Q I ⟨N, st, x, b, r, at_, h, kk⟩
  | none =>
    rw [h] at hq
    exact h2.run pins s sg H Q I ⟨N, st, x, b, r, at_, hq, kk⟩⟩
theorem SI.weak {m1 m2 : MI} (h1 : SI G Y X tg e m1) (w : ∀ s x, m2 s = some x → m1 s = some x) : SI G Y X tg e m2 := ⟨fun pins s sg H Q I q => by
  obtain ⟨N, st, x, b, r, at_, hq, kk⟩ := q
  exact h1.run pins s sg H Q I ⟨N, st, x, b, r, at_, w _ _ hq, kk⟩⟩
def itD : D → Option (List D)
  | .lst l => some l
  | .tup l => some l
  | .dT l => some (l.map (·.1))
  | _ => none
/-- what for walks: a list, a tuple, a dict's keys -/
def mIt (m : ME) : MI := fun s => (m s).bind fun q => (itD q.1.d).map fun l => (l, noBorK q.1, q.2)
theorem si_it (h : Ct G X k) {m : ME} (ha : SE G Y X e m) : SI G Y X tg e (mIt m) :=
  SI.weak (SI.or (si_lst h.ft ha) (SI.or (si_tup h.ft ha) (si_dict h.ft ha))) fun s x q => by
    unfold mIt at q
    unfold mItL mItT mItD
    cases h : m s with
    | none => rw [h] at q; cases q
    | some y =>
      rw [h] at q
      obtain ⟨⟨d, kd⟩, r⟩ := y
      cases d <;> simp [itD] at q <;> subst q <;> rfl
def enD : D → Option (List D)
  | .lst l => some (enumD l)
  | .tup l => some (enumD l)
  | _ => none
def mEn (m : MA) : MI := fun s => (m s).bind fun q => match q.1 with
  | [⟨d, kd⟩] => if noBorK ⟨d, kd⟩ = true then (enD d).map fun l => (l, true, q.2) else none
  | _ => none
theorem si_en {elts : List Expr} {kk : Nat} {m : MA} {tpos : Pos} (h : Ct G X k) (hm : X.mg "enumerate" = none) (ha : SA G Y X [a] m) (hg : Gl X "enumerate" := by rfl) (hs : starEach [a] X.env = [(false, eval a X.env)] := by rfl) :
    SI G Y X (.Tuple elts kk tpos) (.Call (.Name "enumerate" p) [a] [] pos) (mEn m) :=
  SI.weak (SI.or (si_enL h.ft hg hm ha hs) (si_enT h.ft hg hm ha hs)) fun s x q => by
    unfold mEn at q
    unfold mEnL mEnT
    cases h : m s with
    | none => rw [h] at q; cases q
    | some y =>
      rw [h] at q
      obtain ⟨l, r⟩ := y
      match l, q with
      | [], q => cases q
      | [⟨d, kd⟩], q =>
        cases d <;> simp [enD] at q <;> obtain ⟨h1, h2⟩ := q <;> subst h2 <;> simp [h1]
      | _ :: _ :: _, q => cases q
/-! ### calls of built-ins -/
section
variable {m : MA} (h : Ct G X k) (ha : SA G Y X [a] m) (he : starEach [a] X.env = (false, eval a X.env) :: starEach [] X.env)
include h ha he
theorem se_len0 (hm : X.mg "len" = none) (hg : Gl X "len") : SE G Y X (.Call (.Name "len" p) [a] [] pos) (mCall (f1 gLen) m) :=
  se_callB call_len (by rw [h.ft.K]; exact clr_len) hg hm (by decide +kernel) ha (by decide) (by decide) he rfl
theorem se_int0 (hm : X.mg "int" = none) (hg : Gl X "int") : SE G Y X (.Call (.Name "int" p) [a] [] pos) (mCall (f1 gInt) m) :=
  se_callTy call_int1 clr_int hg hm (by decide +kernel) ha (by decide) (by decide) he rfl
theorem se_sum0 (hm : X.mg "sum" = none) (hg : Gl X "sum") : SE G Y X (.Call (.Name "sum" p) [a] [] pos) (mCall (f1 gSum) m) :=
  se_callB (cr_sum h.ft.calm) (by rw [h.ft.K]; exact clr_sum) hg hm (by decide +kernel) ha (by decide) (by decide) he rfl
theorem se_max0 (hm : X.mg "max" = none) (hg : Gl X "max") : SE G Y X (.Call (.Name "max" p) [a] [] pos) (mCall (f1 gMax) m) :=
  se_callB (cr_max h.ft.calm) (by rw [h.ft.K]; exact clr_max) hg hm (by decide +kernel) ha (by decide) (by decide) he rfl
def gListA (l : List D) : Option EV := (f1 gList l).or ((f1 gListI l).or (f1 gListT l))
theorem se_list0 (hm : X.mg "list" = none) (hg : Gl X "list") : SE G Y X (.Call (.Name "list" p) [a] [] pos) (mCall gListA m) :=
  se_callTy (call_list_of.or ((call_listD h.ft.calm).or (cr_listT h.ft))) (by rw [h.ft.K]; exact clr_list.or ((clr_listI).or clr_listT)) hg hm (by decide +kernel) ha (by decide) (by decide) he rfl
theorem se_tuple0 (hm : X.mg "tuple" = none) (hg : Gl X "tuple") : SE G Y X (.Call (.Name "tuple" p) [a] [] pos) (mCall (f1 gTuple) m) :=
  se_callTy call_tuple_of (by rw [h.ft.K]; exact clr_tuple) hg hm (by decide +kernel) ha (by decide) (by decide) he rfl
def gSortA (l : List D) : Option EV := (f1 gSorted l).or (f1 gSortedT l)
theorem se_sorted0 (hm : X.mg "sorted" = none) (hg : Gl X "sorted") : SE G Y X (.Call (.Name "sorted" p) [a] [] pos) (mCall gSortA m) :=
  se_callB ((cr_sortD h.ft h.hr).or (cr_sortT h.ft h.hr)) (clr_sortD.or clr_sortT) hg hm (by decide +kernel) ha (by decide) (by decide) he rfl
end
end
end GD
/-! Ha -/
set_option maxHeartbeats 4000000
/-! Ha: isinstance, append, index, list(range), dict of pairs, calls of defs, the rule for a def. -/
namespace GD
open PySem L2
section
variable {G : GC} {Y : AS} {X : Cx} {e a b c tg : Expr} {es : List Expr} {pos p p2 p3 p4 : Pos} {k : Nat}
theorem SE.weak {m1 m2 : ME} (h1 : SE G Y X e m1) (w : ∀ s x, m2 s = some x → m1 s = some x) : SE G Y X e m2 := ⟨fun pins s sg H Q I q => by
  obtain ⟨N, st, x, r, at_, hq, kk⟩ := q
  exact h1.run pins s sg H Q I ⟨N, st, x, r, at_, w _ _ hq, kk⟩⟩
/-! ### isinstance -/
def mIs (f : D → Option Bool) (m : ME) : ME := fun s => (m s).bind fun q => (f q.1.d).map fun t => (evB t, q.2)
def isIntD : D → Option Bool
  | .non => some false
  | .bl _ => some true
  | .int _ => some true
  | .tup _ => some false
  | .lst _ => some false
  | _ => none
def isBoolD : D → Option Bool
  | .non => some false
  | .bl _ => some true
  | .int _ => some false
  | .tup _ => some false
  | .lst _ => some false
  | _ => none
def isTupD : D → Option Bool
  | .non => some false
  | .bl _ => some false
  | .int _ => some false
  | .tup _ => some true
  | .lst _ => some false
  | _ => none
def isStrD : D → Option Bool
  | .non => some false
  | .bl _ => some false
  | .int _ => some false
  | .tup _ => some false
  | .lst _ => some false
  | _ => none
def isListD : D → Option Bool
  | .non => some false
  | .bl _ => some false
  | .int _ => some false
  | .tup _ => some false
  | .lst _ => some true
  | _ => none
def isTLD : D → Option Bool
  | .non => some false
  | .bl _ => some false
  | .int _ => some false
  | .tup _ => some true
  | .lst _ => some true
  | _ => none
theorem is_weak {f : D → Option Bool} {tb : String → Bool} (h : ∀ d b, f d = some b → ∃ t, tyD d = some t ∧ tb t = b) {m : ME} : ∀ s x, mIs f m s = some x → mIsi tb m s = some x := by
  intro s x q
  unfold mIs at q
  unfold mIsi
  cases hm : m s with
  | none => rw [hm] at q; cases q
  | some y =>
    rw [hm] at q
    simp only [Option.bind_some, Option.map_eq_some_iff] at q ⊢
    obtain ⟨t, h1, h2⟩ := q
    obtain ⟨u, h3, h4⟩ := h _ _ h1
    exact ⟨u, h3, by rw [h4]; exact h2⟩
section
variable {m : ME} (h : Ct G X k) (ha : SE G Y X a m) (hm : X.mg "isinstance" = none) (hg : Gl X "isinstance")
include h ha hm hg
theorem se_isInt (mt : X.mg "int" = none) (gt : Gl X "int") (he : starEach [a, .Name "int" p2] X.env = (false, eval a X.env) :: starEach [.Name "int" p2] X.env) (hst : (backTo pos (starEach [.Name "int" p2] X.env)).any (·.1) = false) :
    SE G Y X (.Call (.Name "isinstance" p) [a, .Name "int" p2] [] pos) (mIs isIntD m) :=
  SE.weak (se_isi (T := "int") (tb := fun t => t == "int" || t == "bool") h.ft (by decide +kernel) ha hg hm gt mt (by decide +kernel) (by decide +kernel) (by decide) (by decide) he hst) (is_weak fun d b q => by cases d <;> simp only [isIntD] at q <;> cases q <;> exact ⟨_, rfl, by decide⟩)
theorem se_isBool (mt : X.mg "bool" = none) (gt : Gl X "bool") (he : starEach [a, .Name "bool" p2] X.env = (false, eval a X.env) :: starEach [.Name "bool" p2] X.env) (hst : (backTo pos (starEach [.Name "bool" p2] X.env)).any (·.1) = false) :
    SE G Y X (.Call (.Name "isinstance" p) [a, .Name "bool" p2] [] pos) (mIs isBoolD m) :=
  SE.weak (se_isi (T := "bool") (tb := fun t => t == "bool") h.ft (by decide +kernel) ha hg hm gt mt (by decide +kernel) (by decide +kernel) (by decide) (by decide) he hst) (is_weak fun d b q => by cases d <;> simp only [isBoolD] at q <;> cases q <;> exact ⟨_, rfl, by decide⟩)
theorem se_isTup (mt : X.mg "tuple" = none) (gt : Gl X "tuple") (he : starEach [a, .Name "tuple" p2] X.env = (false, eval a X.env) :: starEach [.Name "tuple" p2] X.env) (hst : (backTo pos (starEach [.Name "tuple" p2] X.env)).any (·.1) = false) :
    SE G Y X (.Call (.Name "isinstance" p) [a, .Name "tuple" p2] [] pos) (mIs isTupD m) :=
  SE.weak (se_isi (T := "tuple") (tb := fun t => t == "tuple") h.ft (by decide +kernel) ha hg hm gt mt (by decide +kernel) (by decide +kernel) (by decide) (by decide) he hst) (is_weak fun d b q => by cases d <;> simp only [isTupD] at q <;> cases q <;> exact ⟨_, rfl, by decide⟩)
theorem se_isStr (mt : X.mg "str" = none) (gt : Gl X "str") (he : starEach [a, .Name "str" p2] X.env = (false, eval a X.env) :: starEach [.Name "str" p2] X.env) (hst : (backTo pos (starEach [.Name "str" p2] X.env)).any (·.1) = false) :
    SE G Y X (.Call (.Name "isinstance" p) [a, .Name "str" p2] [] pos) (mIs isStrD m) :=
  SE.weak (se_isi (T := "str") (tb := fun t => false) h.ft (by decide +kernel) ha hg hm gt mt (by decide +kernel) (by decide +kernel) (by decide) (by decide) he hst) (is_weak fun d b q => by cases d <;> simp only [isStrD] at q <;> cases q <;> exact ⟨_, rfl, by decide⟩)
theorem se_isTL {k0} (mt : X.mg "tuple" = none) (gt : Gl X "tuple") (mu : X.mg "list" = none) (gu : Gl X "list") (he : starEach [a, .Tuple [.Name "tuple" p2, .Name "list" p3] k0 p4] X.env = (false, eval a X.env) :: starEach [.Tuple [.Name "tuple" p2, .Name "list" p3] k0 p4] X.env)
    (hst : (backTo pos (starEach [.Tuple [.Name "tuple" p2, .Name "list" p3] k0 p4] X.env)).any (·.1) = false) :
    SE G Y X (.Call (.Name "isinstance" p) [a, .Tuple [.Name "tuple" p2, .Name "list" p3] k0 p4] [] pos) (mIs isTLD m) :=
  SE.weak (se_isi2 (T := "tuple") (U := "list") (tb := fun t => t == "tuple" || t == "list") h.ft (fun t ht => by
    have : t = "NoneType" ∨ t = "bool" ∨ t = "int" ∨ t = "tuple" ∨ t = "list" := by simpa [tyNames] using ht
    rcases this with rfl | rfl | rfl | rfl | rfl <;> exact ⟨_, _, rfl, rfl, by decide⟩) ha hg hm gt mt (by decide +kernel) gu mu (by decide +kernel) (by decide +kernel) (by decide) (by decide) (by decide) (by decide) he hst) (is_weak fun d b q => by cases d <;> simp only [isTLD] at q <;> cases q <;> exact ⟨_, rfl, by decide⟩)
end
/-! ### append -/
theorem ss_append (i : Nat) {o : Expr} {m : ME} {apos cpos : Pos} (h : Ct G X k) (ho : PE X o (tVar i)) (he : SE G Y X e m)
    (hbase : attributeBase o "append" X.env (eval o X.env) = eval o X.env)
    (hfew : ((backTo cpos (starEach [e] X.env)).all (fun x => !x.1) && (backToKw cpos (keywordEach [] X.env)).all (fun x => x.1.isSome)
      && decide (([e] : List Expr).length + ([] : List Keyword).length + (if ([] : List Keyword).isEmpty then 0 else 1) < 30)) = true)
    (hline : (apos.endLine == cpos.line) = true) (hs : starEach [e] X.env = (false, eval e X.env) :: starEach [] X.env) (hpl : (backTo cpos (starEach [] X.env)).any (·.1) = false)
    (hsw : swapsWith (.Call (.Attribute o "append" apos) [e] [] cpos) none pos.line X.env = pure false) :
    SS G Y X (.Expr (.Call (.Attribute o "append" apos) [e] [] cpos) pos) (mApp i m) :=
  ss_app h.ft ho he (pe_bm PySem.F.plainAttrs_list PySem.F.slot_list_append PySem.F.type_list_append mt_append ho (pa_cons he pa_nil hs) hbase hfew hline hs hpl) hsw
/-! ### xs.index(x) -/
def idxD (x : D) : List D → Option Nat
  | [] => none
  | y :: r => if eqD y x = true then some 0 else (idxD x r).map (· + 1)
theorem idxD_some {x : D} : ∀ {l : List D} {j : Nat}, idxD x l = some j → ∃ z, l[j]? = some z ∧ eqD z x = true ∧ ∀ (m : Nat) (z' : D), m < j → l[m]? = some z' → eqD z' x = false
  | [], j, h => by cases h
  | y :: r, j, h => by
    unfold idxD at h
    split at h
    · rename_i q
      cases h
      exact ⟨y, rfl, q, fun m z' hm => absurd hm (Nat.not_lt_zero _)⟩
    · rename_i q
      obtain ⟨i, h1, rfl⟩ := Option.map_eq_some_iff.mp h
      obtain ⟨z, h2, h3, h4⟩ := idxD_some h1
      refine ⟨z, h2, h3, fun m z' hm hz => ?_⟩
      cases m with
      | zero => simp at hz; subst hz; exact Bool.eq_false_iff.mpr q
      | succ m => exact h4 m z' (by omega) hz
def fIdx : D → D → Option EV
  | .lst l, x => if (shp x && shp (.lst l)) = true then (idxD x l).map fun j => evI (j : Nat) else none
  | _, _ => none
theorem pys_get {l : List D} {m : Nat} {z : PyData} (h : (pys l)[m]? = some z) : ∃ d, l[m]? = some d ∧ z = py d := by
  rw [pys_map, List.getElem?_map] at h
  obtain ⟨d, h1, h2⟩ := Option.map_eq_some_iff.mp h
  exact ⟨d, h1, h2.symm⟩
theorem se_index {o : Expr} {mo m : ME} {apos cpos : Pos} (h : Ct G X k) (ho : SE G Y X o mo) (he : SE G Y X e m)
    (hbase : attributeBase o "index" X.env (eval o X.env) = eval o X.env)
    (hfew : ((backTo cpos (starEach [e] X.env)).all (fun x => !x.1) && (backToKw cpos (keywordEach [] X.env)).all (fun x => x.1.isSome)
      && decide (([e] : List Expr).length + ([] : List Keyword).length + (if ([] : List Keyword).isEmpty then 0 else 1) < 30)) = true)
    (hline : (apos.endLine == cpos.line) = true) (hs : starEach [e] X.env = (false, eval e X.env) :: starEach [] X.env) (hpl : (backTo cpos (starEach [] X.env)).any (·.1) = false) :
    SE G Y X (.Call (.Attribute o "index" apos) [e] [] cpos) (mBin fIdx mo m) :=
  PE.weak (pe_bm PySem.F.plainAttrs_list PySem.F.slot_list_index PySem.F.type_list_index (mt_indexD h.u65) ho (pa_cons he pa_nil hs) hbase hfew hline hs hpl) fun sg H Q hq => by
    obtain ⟨N, st, x, r, at_, q, kk⟩ := hq
    obtain ⟨p1, r1, q1, h1, h2, h3⟩ := mBin_some q
    obtain ⟨d1, k1⟩ := p1
    obtain ⟨d2, k2⟩ := q1
    cases d1 <;> simp only [fIdx] at h3 <;> try cases h3
    rename_i l
    split at h3
    · rename_i hc
      rw [Bool.and_eq_true] at hc
      obtain ⟨j, h4, rfl⟩ := Option.map_eq_some_iff.mp h3
      obtain ⟨z, z1, z2, z3⟩ := idxD_some h4
      refine ⟨N, st, _, r1, at_, h1, fun v H1 x1 w1 o1 => ?_⟩
      have t1 := o1.top
      obtain ⟨pa, vs, rfl, _, ea, ra⟩ := id t1
      refine ⟨.inl ⟨rfl, _, SqL.of ea⟩, N, ⟨st.sl, r1⟩, _, r, at_.ext x1 w1, h2, fun w H2 x2 w2 o2 => ?_⟩
      have hf := h.ft.K
      refine ⟨pa, w, py d2, pys l, j, py z, rfl, rfl, ?_, ?_, hc.2, hc.1, ?_, z2, fun m z' hm hz => ?_, kk _ _ (x1.trans x2) w2 ok_int⟩
      · rw [hf]; exact (t1.ext x2).dp (d := .lst l) (shp_lay hc.2)
      · rw [hf]; exact o2.top.dp (shp_lay hc.1)
      · rw [pys_map, List.getElem?_map, z1]; rfl
      · obtain ⟨d, hd, rfl⟩ := pys_get hz
        exact z3 m d hm hd
    · cases h3
/-! ### list(range(n)) -/
def mListRg (m : ME) : ME := fun s => (m s).bind fun q => match q.1.d with
  | .int n => if decide (0 ≤ n ∧ n ≤ 1000000) = true then some (⟨.lst (rngD 0 n.toNat), .new⟩, q.2) else none
  | _ => none
theorem rep_rng {N : AS} {H : Hp} (lo : Int) : ∀ l : List Nat, RepL G N H (l.map fun (i : Nat) => V.int (lo + (i : Nat))) (l.map fun i => D.int (lo + (i : Nat)))
  | [] => RepL.nil
  | i :: r => RepL.cons (by simp only [Rep]) (rep_rng lo r)
theorem se_listRg {m : ME} {p1 pos1 : Pos} (h : Ct G X k) (ha : SE G Y X a m) (hm : X.mg "list" = none) (hm2 : X.mg "range" = none) (hg : Gl X "list") (hg2 : Gl X "range") (na : starEach [.Call (.Name "range" p) [a] [] pos] X.env = (false, eval (.Call (.Name "range" p) [a] [] pos) X.env) :: starEach [] X.env)
    (na2 : starEach [a] X.env = (false, eval a X.env) :: starEach [] X.env) : SE G Y X (.Call (.Name "list" p1) [.Call (.Name "range" p) [a] [] pos] [] pos1) (mListRg m) :=
  PE.weak (pe_listRg h.ft.calm hg hm (prg_1 hg2 hm2 ha na2) na) fun sg H Q hq => by
    obtain ⟨N, st, x, r, at_, q, kk⟩ := hq
    unfold mListRg at q
    simp only [Option.bind_eq_some_iff] at q
    obtain ⟨⟨⟨d, kd⟩, r1⟩, h1, h2⟩ := q
    cases d <;> simp only at h2 <;> try cases h2
    rename_i n
    split at h2
    · rename_i hc
      cases h2
      have hc := of_decide_eq_true hc
      refine ⟨N, st, _, r, at_, h1, fun v H1 x1 w1 o1 => ⟨n, ev_int o1, RgOk.of_le (by omega) (by omega) (by omega) (by omega), fun q hq => ?_⟩⟩
      refine kk _ _ (x1.trans (Grow.new hq).ext) ((Grow.new hq).row _ w1) ((new_lst hq w1 ?_).base x1)
      have : rgV 0 n = (List.range n.toNat).map fun (i : Nat) => V.int (0 + (i : Nat)) := by unfold rgV; rw [Int.sub_zero]
      rw [this]
      exact rep_rng 0 _
    · cases h2
end
end GD
/-! Hb -/
set_option maxHeartbeats 4000000
/-! Hb: dict of pairs, calls of defs, the rule for a def. -/
namespace GD
open PySem PySem.Spec PyProof.Rows L2
section
variable {G : GC} {Y : AS} {X : Cx} {e a b c tg : Expr} {es : List Expr} {pos p p2 p3 p4 : Pos} {k : Nat}
/-! ### dict([(k, v), ..]) -/
def pairD (q : D × D) : D := .tup [q.1, q.2]
def rDictP (G : GC) : RC := fun vs H Q => ∃ (M : AS) (d : Addr) (ts : List V) (l : List (D × D)), vs = [.ref d] ∧ H d = some (.lst ts) ∧ RepL G M H ts (l.map pairD) ∧ (∀ q ∈ l, keyOk q.1 = true) ∧ l.length ≤ lim ∧
  ∀ p ob es, H p = none → RepT G M H es (l.foldl (fun acc q => putT acc q.1 q.2) []) → Q (.ref p) (upd H p (DO G p (ob, es)))
theorem store_all {M : AS} {H : Hp} : ∀ {l acc : List (D × D)} {es es0 : List (NestedKey × Addr × V)} {xs xs0 : List (NestedKey × Addr × Value)}, RepT G M H es l → Paired RelE es xs → RepT G M H es0 acc → Paired RelE es0 xs0 →
    ∃ es', RepT G M H es' (l.foldl (fun acc q => putT acc q.1 q.2) acc) ∧ Paired RelE es' (storedAllH xs0 xs)
  | [], acc, es, es0, xs, xs0, r, p, r0, p0 => by
    simp only [RepT] at r
    subst r
    cases p
    exact ⟨es0, r0, p0⟩
  | (kk, d) :: l, acc, es, es0, xs, xs0, r, p, r0, p0 => by
    simp only [RepT] at r
    obtain ⟨b, v, t, rfl, c, r1, r2, r3⟩ := r
    cases p with
    | cons q qs =>
      rename_i y ys
      obtain ⟨y1, y2, y3⟩ := y
      obtain ⟨e1, e2, e3⟩ := q
      simp only at e1 e2 e3
      subst e1 e2
      exact store_all (acc := putT acc kk d) (xs0 := storedH xs0 (nk kk) b y3) r3 qs (RepT.put r0 c r1 r2) (store_paired p0 e3)
theorem pairs_of {h : Heap} {H : Hp} (I : ∀ (t : Addr) (xs : List V), H t = some (.tup xs) → ∃ its : List Value, Vals xs its ∧ IsTup h t its.toArray) {M : AS} : ∀ {l : List (D × D)} {ts : List V} {us : List Value}, RepL G M H ts (l.map pairD) → (∀ q ∈ l, keyOk q.1 = true) → Vals ts us →
    ∃ (as : List Addr) (es : List (NestedKey × Addr × V)) (xs : List (NestedKey × Addr × Value)), us = as.map Value.ref ∧ as.length = l.length ∧ xs.length = l.length ∧ RepT G M H es l ∧ Paired RelE es xs ∧
      ∀ (j : Nat) (x : NestedKey × Addr × Value), xs[j]? = some x → ∃ t, as[j]? = some t ∧ IsTup h t #[.ref x.2.1, x.2.2]
  | [], ts, us, r, _, v => by
    simp only [List.map_nil, RepL] at r
    subst r
    cases v
    exact ⟨[], [], [], rfl, rfl, rfl, by simp only [RepT], .nil, fun j x hx => by simp at hx⟩
  | (kk, d) :: l, ts, us, r, c, v => by
    simp only [List.map_cons, RepL, pairD, Rep] at r
    obtain ⟨w, ts', rfl, ⟨t, ys, rfl, ht, r1⟩, r2⟩ := r
    obtain ⟨y1, ys', rfl, q1, y2, ys'', rfl, q2, rfl⟩ := r1
    cases v with
    | cons rv vs =>
      obtain rfl := rv
      obtain ⟨as, es, xs, rfl, h1, h2, h3, h4, h5⟩ := pairs_of I r2 (fun q hq => c q (List.mem_cons_of_mem _ hq)) vs
      have ck := c _ List.mem_cons_self
      obtain ⟨b, rfl⟩ := key_ref q1 ck
      obtain ⟨its, rv, it⟩ := I t _ ht
      cases rv with
      | cons ra rb =>
        cases rb with
        | cons rb rc =>
          cases rc
          obtain rfl := ra
          rename_i u
          refine ⟨t :: as, (nk kk, b, y2) :: es, (nk kk, b, u) :: xs, rfl, by simp [h1], by simp [h2], ?_, .cons ⟨rfl, rfl, rb⟩ h4, fun j x hx => ?_⟩
          · simp only [RepT]
            exact ⟨b, y2, es, rfl, ck, q1, q2, h3⟩
          · cases j with
            | zero => simp at hx; subst hx; exact ⟨t, rfl, it⟩
            | succ j => exact h5 j x (by simpa using hx)
theorem cr_dictP (ft : Fit G X) (hr : Room k X.A) : CallR X (.type "dict") (rDictP G) := by
  intro pins s σ H vs us Q I r h
  obtain ⟨M, d, ts, l, rfl, hd, rl, ck, hl, q⟩ := h
  rw [Vals.ref1 r]
  obtain ⟨its, rv, pl, hz⟩ := I.list (SqL.of hd)
  obtain ⟨as, es, xs, hu, h1, h2, h3, h4, h5⟩ := pairs_of (h := s.heap) (fun t ys ht => by
    obtain ⟨its, rv, it, _⟩ := I.tuple (SqT.of ht)
    exact ⟨its, rv, it⟩) rl ck rv
  have hun := hr.un
  have hkey : ∀ x ∈ xs, (nestedKind X.prog X.w).is s.heap x.1 x.2.1 := by
    clear q hz hl h5 h1 h2 hu rv rl
    induction l generalizing es xs with
    | nil => simp only [RepT] at h3; subst h3; cases h4; intro x hx; cases hx
    | cons kd l ih =>
      obtain ⟨kk, dd⟩ := kd
      simp only [RepT] at h3
      obtain ⟨b, v, t, rfl, c, r1, r2, r3⟩ := h3
      cases h4 with
      | cons p1 p2 =>
        intro x hx
        rcases List.mem_cons.mp hx with rfl | hx
        · rw [← p1.1, ← p1.2.1]
          exact Rep.key ft I r1 c
        · exact ih (fun q hq => ck q (List.mem_cons_of_mem _ hq)) _ _ r3 p2 x hx
  have hps : (xs.map fun x => (Value.ref x.2.1, x.2.2)).length = l.length := by rw [List.length_map, h2]
  refine call_dict_pairsH (knd := nestedKind X.prog X.w) (ps := xs) (PairArg.list d its.toArray (fun j => as.getD j 0) (xs.map fun x => (Value.ref x.2.1, x.2.2))) (I.ok.hd ft.calm) (show X.A.in1.in1.units + 8 < cLine by show X.A.units + 1 + 1 + 8 < cLine; omega) ⟨?_, ?_⟩ ⟨by rw [hps, h2], fun i key v hrel => ?_⟩ ?_ (by rw [hps]; exact lim_line hl) fun h' tk hd' hk => ?_
  · obtain ⟨o, n, ho, hc, hdn, hdat⟩ := pl
    exact ⟨o, n, ho, hc, hdn, hdat⟩
  · refine ⟨by rw [hps, List.size_toArray, hu, List.length_map, h1], fun j kx vx hj => ?_⟩
    rw [List.getElem?_map] at hj
    obtain ⟨x, e1, e2⟩ := Option.map_eq_some_iff.mp hj
    cases e2
    obtain ⟨t, e3, e4⟩ := h5 j x e1
    have e5 : as.getD j 0 = t := by rw [List.getD_eq_getElem?_getD, e3]; rfl
    show its.toArray[j]? = some (.ref (as.getD j 0)) ∧ PairAt s.heap (as.getD j 0) _ _
    rw [e5]
    refine ⟨by rw [hu]; simp [e3], .inl ?_⟩
    obtain ⟨o, ho, hc, n, hdd⟩ := e4
    exact ⟨o, ho, hc, n, hdd⟩
  · have hrel : (xs.map fun x => (Value.ref x.2.1, x.2.2))[i]? = some (key, v) := hrel
    rw [List.getElem?_map] at hrel
    obtain ⟨⟨x1, x2, x3⟩, e1, e2⟩ := Option.map_eq_some_iff.mp hrel
    cases e2
    exact ⟨x1, x2, e1, rfl⟩
  · intro h' hk x hx
    exact nestedKind_stays.stays (fun b o vs n e _ => hk b o (Nat.ne_of_lt (Heap.lt_size e)) (by simp) e) (hkey x hx)
  · obtain ⟨es', r', p'⟩ := store_all h3 h4 (show RepT G M H [] [] by simp only [RepT]) Paired.nil
    have hlen : es'.length ≤ sizeLine := by
      have e1 := r'.len
      rw [e1]
      refine lim_line (Nat.le_trans ?_ hl)
      have : ∀ (l acc : List (D × D)), (l.foldl (fun acc q => putT acc q.1 q.2) acc).length ≤ acc.length + l.length := by
        intro l
        induction l with
        | nil => intro acc; simp
        | cons q l ih =>
          intro acc
          rw [List.foldl_cons]
          refine Nat.le_trans (ih _) ?_
          have : (putT acc q.1 q.2).length ≤ acc.length + 1 := by
            unfold putT
            split
            · rw [List.length_map]; omega
            · rw [List.length_append]; simp
          rw [List.length_cons]; omega
      have := this l []
      simpa using this
    have hb : sysModules < s.heap.objs.size := I.big
    obtain ⟨ob, ok⟩ := do_ok (G := G) (H' := upd H s.heap.objs.size (DO G s.heap.objs.size (dob, es'))) ft.P ft.w hlen (beq_eq_false_iff_ne.mpr (Nat.ne_of_gt hb)) p' hd'
    exact ⟨.ref s.heap.objs.size, _, I.laid (t' := tk) (fun b o e => hk b o (by simp) e) (Nat.le_refl _) ok, rfl, q _ ob es' (I.hok.fresh (Nat.le_refl _)) r'⟩
end
end GD
/-! Hc -/
set_option maxHeartbeats 4000000
/-! Hc: dict(..), calls of defs, the rule for a def. -/
namespace GD
open PySem PySem.Spec PyProof.Rows L2
section
variable {G : GC} {Y : AS} {X : Cx} {e a b c tg : Expr} {es : List Expr} {pos p p2 p3 p4 : Pos} {k : Nat}
def unpD : D → Option (D × D)
  | .tup [x, y] => if keyOk x = true then some (x, y) else none
  | _ => none
def unps : List D → Option (List (D × D))
  | [] => some []
  | d :: r => (unpD d).bind fun q => (unps r).map (q :: ·)
theorem unps_some : ∀ {l : List D} {m : List (D × D)}, unps l = some m → l = m.map pairD ∧ ∀ q ∈ m, keyOk q.1 = true
  | [], m, h => by cases h; exact ⟨rfl, fun q hq => by cases hq⟩
  | d :: r, m, h => by
    simp only [unps, Option.bind_eq_some_iff, Option.map_eq_some_iff] at h
    obtain ⟨⟨x, y⟩, h1, m', h2, rfl⟩ := h
    obtain ⟨h3, h4⟩ := unps_some h2
    unfold unpD at h1
    split at h1
    · rename_i x' y'
      split at h1
      · rename_i hc
        cases h1
        refine ⟨by rw [h3]; rfl, fun q hq => ?_⟩
        rcases List.mem_cons.mp hq with rfl | hq
        · exact hc
        · exact h4 q hq
      · cases h1
    · cases h1
def gDictP : D → Option EV
  | .lst l => (unps l).bind fun m => if m.length ≤ lim then some ⟨.dT (m.foldl (fun acc q => putT acc q.1 q.2) []), .new⟩ else none
  | _ => none
theorem clr_dictP : Clr G (rDictP G) (f1 gDictP) := Cl1.clr fun M H v d x rw Q q1 q2 q3 q5 k => by
  cases d <;> simp only [gDictP] at q5 <;> try cases q5
  simp only [Option.bind_eq_some_iff] at q5
  obtain ⟨m, h1, h2⟩ := q5
  split at h2
  · rename_i hl
    cases h2
    obtain ⟨rfl, h3⟩ := unps_some h1
    obtain ⟨a, vs, rfl, _, e, r⟩ := q3
    refine ⟨M, a, vs, m, rfl, e, r, h3, hl, fun p ob es hp hr => k _ _ (Grow.new hp) ?_⟩
    refine ⟨rfl, p, rfl, hp, p, (ob, es), rfl, fun z => q1.live (z ▸ hp), upd_same, ?_⟩
    exact RepT.fix (N := Th M H) (Ext.new hp).fix (fun a z => ⟨.inl z.1, fun q => z.2 (q ▸ hp)⟩) _ _ (RepT.there _ _ hr)
  · cases h2
theorem se_dict0 {m : MA} (h : Ct G X k) (ha : SA G Y X [a] m) (he : starEach [a] X.env = (false, eval a X.env) :: starEach [] X.env) (hm : X.mg "dict" = none) (hg : Gl X "dict") : SE G Y X (.Call (.Name "dict" p) [a] [] pos) (mCall (f1 gDictP) m) :=
  se_callTy (cr_dictP h.ft h.hr) clr_dictP hg hm (by decide +kernel) ha (by decide) (by decide) he rfl
end
/-! ### defs -/
/-- the def x is known to compute g -/
structure Fn (P : Program) (w : World) (K : PySem.W.Frag) (mg : Str → Option Value) (base : Heap) (T : List Addr × List Int) (x : Str) (k np : Nat) (g : MF) : Prop where
  ex : ∃ (f : Addr) (fd : FuncData) (ps : List Str), FnOk P w K mg base CX0 k f fd ps (spG P w K T np g) ∧ mg x = some (.ref f) ∧ PySem.W.keepIn K (.ref f) = true ∧ Binds K fd ps []
section
variable {G : GC} {Y : AS} {X : Cx} {e a b c tg : Expr} {es : List Expr} {pos p p2 p3 p4 : Pos} {k j np : Nat}
theorem se_call {x : Str} {g : MF} {m : MA} (h : Ct G X k) (F : Fn X.prog X.w X.K X.mg X.base (G.tabs, G.ns) x j np g) (hj : j ≤ k) (ha : SA G Y X (a :: es) m) (hg : Gl X x) (hd : (x == ("__debug__" : Str)) = false)
    (he : starEach (a :: es) X.env = (false, eval a X.env) :: starEach es X.env) (hst : (backTo pos (starEach es X.env)).any (·.1) = false) : SE G Y X (.Call (.Name x p) (a :: es) [] pos) (mFn np g m) := by
  obtain ⟨f, fd, ps, h1, h2, h3, h4⟩ := F.ex
  exact se_fn (CX := CX0) h.ft h1 (h.hr.mono hj) hg h2 h3 h4 ha hd he hst
end
/-- the def as the head tells it; its code object, its table -/
structure Df (K : PySem.W.Frag) (mg : Str → Option Value) (base : Heap) (tabs : List Addr) (x : Str) (st : Stmt) (gen : Bool) : Prop where
  ex : ∃ (f : Addr) (fd : FuncData) (c : Addr), FunD K x x (defArgs st) (defBody st) (defScope st) [] [] f fd ∧ mg x = some (.ref f) ∧ fd.code = .ref c ∧ (gen = true → ∃ P, GxR.TabB base mg c P ∧ P ∈ tabs)
theorem nox_ct {G : GC} {mg : Str → Option Value} {base : Heap} {N : List Str} {qual : Str} {scope : Scope} {f : Addr} {cd : Value} {A : Around} {outer : List Env} {s : Shared} {H : Hp} {E : XK} {k : Nat} (hn : N.Nodup) (r : Room k (A.deeper (PyProof.Rows.envOfC qual scope s.heap.objs.size f cd))) :
    Ct G (cxOf CX0 G.P G.w G.K mg base N qual scope f cd A outer s H E).nox k := ⟨⟨rfl, rfl, rfl, rfl⟩, r, hn⟩
theorem def_mk {P : Program} {w : World} {K : PySem.W.Frag} {mg : Str → Option Value} {base : Heap} {T : List Addr × List Int} {x : Str} {st : Stmt} {gen : Bool} {k n np : Nat} {N ps : List Str} {m : MSt} (F : Df K mg base T.1 x st gen) (S : FnScope N ps (defScope st)) (hn : N.length = n) (hp : ps.length = np)
    (hb : ∀ (kV doc pm : Value) (an : Option Addr) (cdv ct : Value) (us : List Value), us.length = ps.length → bindArgs (PySem.W.fnOf x x (defArgs st) (defBody st) (defScope st) .none kV doc pm an cdv ct) ⟨us, []⟩ = pure (ps.zip us))
    (h : ∀ (G : GC) (Y : AS) (f c : Addr) (A : Around) (outer : List Env) (s : Shared) (H : Hp) (E : XK), G.P = P → G.w = w → G.K = K → (G.tabs, G.ns) = T → (gen = true → ∃ P, GxR.TabB base mg c P ∧ P ∈ G.tabs) →
      Ct G (cxOf CX0 G.P G.w G.K mg base N x (defScope st) f (.ref c) A outer s H E).nox k → SSs G Y (cxOf CX0 G.P G.w G.K mg base N x (defScope st) f (.ref c) A outer s H E).nox (defBody st) m) :
    Fn P w K mg base T x (k + 1) np (mBody n m) := by
  obtain ⟨f, fd, c, F, hm, hc, ht⟩ := F.ex
  refine ⟨f, fd, ps, ?_, hm, F.kp, F.bindsN hb⟩
  obtain ⟨oc, od, dV, kV, doc, pm, an, cdv, ct, osl, rfl, lk, hcd, _, _⟩ := F.ex
  have hc : cdv = .ref c := hc
  subst hc
  refine fn_of lk hcd S (fun vs H Q E q => by rw [spG_len vs H Q E q, hp]) fun A outer s H vs Q E hr hsp => ?_
  obtain ⟨G, Y, rfl, rfl, rfl, rfl, q⟩ := body_q hn hsp
  exact ⟨_, (h G Y f c A outer s H E rfl rfl rfl rfl ht (nox_ct S.nd hr)).nox, q⟩
/-! ### the blocks of generator expressions -/
def genC (N : List Str) (sc scope : Scope) (own : List (Str × Nat)) : Bool := blkC N sc scope own && (match scope.isCoroutine with | false => true | true => false) && (scope.names.all fun y => match y.2 with | .cell => false | _ => true) && (match scope.names.lookup (".0" : Str) with | some .local => true | _ => false)
theorem genOk_by {N : List Str} {sc scope : Scope} {own : List (Str × Nat)} (h : genC N sc scope own = true) : GenOk N sc scope own := by
  unfold genC at h
  simp only [Bool.and_eq_true, List.all_eq_true] at h
  obtain ⟨⟨⟨h1, h2⟩, h3⟩, h4⟩ := h
  refine ⟨blkOk_by h1, ?_, fun y hy e => ?_, ?_⟩
  · split at h2
    · assumption
    · cases h2
  · have := h3 y hy
    rw [e] at this
    cases this
  · split at h4
    · assumption
    · cases h4
end GD
/-! Ja -/
set_option maxHeartbeats 4000000
/-! Ja: the text's defs, what the head tells of them. -/
namespace GD
open PySem L2
def top (i : Nat) : Stmt := PySem.Challenge.pw_groupdeeds_k16_whole_nets.main.body.getD i (.Pass ⟨0, 0, 0, 0⟩)
def mNever : MSt := fun _ => none
def mDnilT : ME := fun s => some (⟨.dT [], .new⟩, s.rw)
def mDnilI : ME := fun s => some (⟨.dI [], .new⟩, s.rw)
section
variable {G : GC} {Y : AS} {X : Cx} {a e o : Expr} {st : Stmt} {l : List Stmt} {pos pos' : Pos} {k : Nat}
theorem sss_never : SSs G Y X l mNever := ⟨fun pins s sg H D I q => by
  obtain ⟨_, _, _, _, _, _, _, q, _⟩ := q
  cases q⟩
theorem ss_stoI {i : Nat} {mk mv : ME} (h : Ct G X k) (ho : PE X o (tVar i)) (hk : SE G Y X a mk) (hv : SE G Y X e mv) (hs : swapsWithSole [.Subscript o a pos'] e pos.line X.env = pure false := by rfl) (hw : swappedStores [.Subscript o a pos'] e X.env = pure none := by rfl)
    (h1 : (assignEach [.Subscript o a pos'] X.env).map (·.2) = [assign (.Subscript o a pos') X.env] := by rfl)
    (ha : ∀ v, assign (.Subscript o a pos') X.env v = (do
      let ov ← holding [v] (eval o X.env)
      let iv ← holding [v, ov] (eval a X.env)
      standAt pos'
      holding [v, ov, iv] (setItem ov iv v)
      release [v, ov, iv] []) := by intro _; rfl) : SS G Y X (.Assign [.Subscript o a pos'] e pos) (mSetI i mk mv) := ss_setI ho hk hv (ps_asg hv (pg_sub ho hk set_list ha) hs hw h1)
theorem ss_stoD {i : Nat} {mk mv : ME} (h : Ct G X k) (ho : PE X o (tVar i)) (hk : SE G Y X a mk) (hv : SE G Y X e mv) (hs : swapsWithSole [.Subscript o a pos'] e pos.line X.env = pure false := by rfl) (hw : swappedStores [.Subscript o a pos'] e X.env = pure none := by rfl)
    (h1 : (assignEach [.Subscript o a pos'] X.env).map (·.2) = [assign (.Subscript o a pos') X.env] := by rfl)
    (ha : ∀ v, assign (.Subscript o a pos') X.env v = (do
      let ov ← holding [v] (eval o X.env)
      let iv ← holding [v, ov] (eval a X.env)
      standAt pos'
      holding [v, ov, iv] (setItem ov iv v)
      release [v, ov, iv] []) := by intro _; rfl) : SS G Y X (.Assign [.Subscript o a pos'] e pos) (mPutI i mk mv) := ss_putI ho hk hv (ps_asg hv (pg_sub ho hk (pset_dI h.hr) ha) hs hw h1)
theorem ss_stoT {i : Nat} {mk mv : ME} (h : Ct G X k) (ho : PE X o (tVar i)) (hk : SE G Y X a mk) (hv : SE G Y X e mv) (hs : swapsWithSole [.Subscript o a pos'] e pos.line X.env = pure false := by rfl) (hw : swappedStores [.Subscript o a pos'] e X.env = pure none := by rfl)
    (h1 : (assignEach [.Subscript o a pos'] X.env).map (·.2) = [assign (.Subscript o a pos') X.env] := by rfl)
    (ha : ∀ v, assign (.Subscript o a pos') X.env v = (do
      let ov ← holding [v] (eval o X.env)
      let iv ← holding [v, ov] (eval a X.env)
      standAt pos'
      holding [v, ov, iv] (setItem ov iv v)
      release [v, ov, iv] []) := by intro _; rfl) : SS G Y X (.Assign [.Subscript o a pos'] e pos) (mPutT i mk mv) := ss_putT ho hk hv (ps_asg hv (pg_sub ho hk (pset_do h.ft h.hr) ha) hs hw h1)
end
structure Hd (K : PySem.W.Frag) (mg : Str → Option Value) (base : Heap) (tabs : List Addr) : Prop where
  nm : Nm mg
  int_MOST_CHEAP : ∃ t, mg "MOST_CHEAP" = some (.int 300 t)
  int_MOST_LIKING : ∃ t, mg "MOST_LIKING" = some (.int 100 t)
  int_MOST_PEOPLE : ∃ t, mg "MOST_PEOPLE" = some (.int 6 t)
  int_MOST_PRICE : ∃ t, mg "MOST_PRICE" = some (.int 1000 t)
  int_MOST_ROW : ∃ t, mg "MOST_ROW" = some (.int 40 t)
  int_MOST_TURNS : ∃ t, mg "MOST_TURNS" = some (.int 8 t)
  d_is_in : Df K mg base tabs "is_in" (top 9) false
  d_is_lot : Df K mg base tabs "is_lot" (top 10) true
  d_is_grouping : Df K mg base tabs "is_grouping" (top 11) true
  d_size_of : Df K mg base tabs "size_of" (top 12) true
  d_need_grouping : Df K mg base tabs "need_grouping" (top 13) false
  d_all_groupings : Df K mg base tabs "all_groupings" (top 14) false
  d_is_step : Df K mg base tabs "is_step" (top 15) false
  d_lot_with : Df K mg base tabs "lot_with" (top 16) false
  d_joined : Df K mg base tabs "joined" (top 17) false
  d_left : Df K mg base tabs "left" (top 18) false
  d_stepped : Df K mg base tabs "stepped" (top 19) false
  d_are_steps : Df K mg base tabs "are_steps" (top 20) true
  d_is_row : Df K mg base tabs "is_row" (top 21) false
  d_trace : Df K mg base tabs "trace" (top 22) false
  d_all_steps : Df K mg base tabs "all_steps" (top 23) false
  d_pairs_of : Df K mg base tabs "pairs_of" (top 26) false
  d_are_likings : Df K mg base tabs "are_likings" (top 27) true
  d_need_likings : Df K mg base tabs "need_likings" (top 28) false
  d_worth_of : Df K mg base tabs "worth_of" (top 29) true
  d_are_prices : Df K mg base tabs "are_prices" (top 33) true
  d_need_prices : Df K mg base tabs "need_prices" (top 34) false
  d_price_table : Df K mg base tabs "price_table" (top 35) false
  d_price_of : Df K mg base tabs "price_of" (top 36) true
  d_rows_from : Df K mg base tabs "rows_from" (top 39) false
  d_need_net : Df K mg base tabs "need_net" (top 40) false
  d_net_of : Df K mg base tabs "net_of" (top 41) false
  d_best_net : Df K mg base tabs "best_net" (top 42) false
  d_shows_best_net : Df K mg base tabs "shows_best_net" (top 43) false
  d_tables : Df K mg base tabs "tables" (top 44) false
  d_need_stay : Df K mg base tabs "need_stay" (top 45) false
  d_best_stay : Df K mg base tabs "best_stay" (top 46) false
  d_shows_best_stay : Df K mg base tabs "shows_best_stay" (top 47) false
  d_stay_worths : Df K mg base tabs "stay_worths" (top 48) false
  d__law_taken : Df K mg base tabs "_law_taken" (top 50) false
  d__law_pick : Df K mg base tabs "_law_pick" (top 51) false
  d__law_alike : Df K mg base tabs "_law_alike" (top 52) false
  d__law_lots : Df K mg base tabs "_law_lots" (top 53) false
  d__law_labels : Df K mg base tabs "_law_labels" (top 54) false
  d__law_step : Df K mg base tabs "_law_step" (top 56) false
  d__law_done : Df K mg base tabs "_law_done" (top 57) false
  d__law_steps : Df K mg base tabs "_law_steps" (top 58) false
  d__law_row : Df K mg base tabs "_law_row" (top 59) false
  d__law_groupings : Df K mg base tabs "_law_groupings" (top 60) false
  d__law_worth : Df K mg base tabs "_law_worth" (top 61) false
  d__law_stays : Df K mg base tabs "_law_stays" (top 62) false
end GD
/-! Jb -/
set_option maxHeartbeats 4000000
namespace GD
open PySem L2
abbrev N_is_in : List Str := ["value", "least", "most"]
def m_is_in : MSt :=
 (mRet (mAnd (mIs isIntD (mVar 0)) (mAnd (mNot (mIs isBoolD (mVar 0))) (mChain fLe fLe (mVar 1) (mVar 0) (mVar 2)))))
def f_is_in : MF := mBody 3 m_is_in
theorem sc_is_in : FnScope N_is_in ["value", "least", "most"] (defScope (top 9)) := ⟨rfl, rfl, rfl, by decide +kernel, rfl, by decide +kernel, by decide +kernel⟩
theorem d_is_in {P : Program} {w : World} {K : PySem.W.Frag} {mg : Str → Option Value} {base : Heap} {T : List Addr × List Int} (h : Hd K mg base T.1) : Fn P w K mg base T "is_in" 1 3 (f_is_in) := by
  refine def_mk (h.d_is_in) sc_is_in rfl rfl (fun _ _ _ _ _ _ us hl => match us, hl with | [_, _, _], _ => rfl) ?_
  rintro G Y f c0 A outer s H E rfl rfl rfl rfl hgen c
  have B := h.nm
  exact (ss_one (ss_ret (se_and (se_isInt c (sv 0) B.isinstance rfl B.int rfl rfl rfl) (se_and (se_not (se_isBool c (sv 0) B.isinstance rfl B.bool rfl rfl rfl)) (se_one (se_chain op_le op_le opr_intB opr_intB (sv 1) (sv 0) (sv 2)))))))
abbrev N_is_lot : List Str := ["size", "value", "k", "one"]
def m_is_lot : MSt :=
 (mSeq (mIfS (mTOr (mTNot (mTb (mIs isTupD (mVar 1)))) (mTOr (mTNot (mTr (mVar 1))) (mTNot (mTb (mAllG (.one 3) [3] (mIt (mVar 1)) (mFn 3 f_is_in (mCons (mVar 3) (mCons (mCst (.int 0)) (mCons (mBin fSub (mVar 0) (mCst (.int 1))) mNil)))))))))
 (mRet (mCst (.bl false)))
 mNext)
 (mRet (mAllG (.one 2) [2] (mRng1 (mCons (mBin fSub (mCall (f1 gLen) (mCons (mVar 1) mNil)) (mCst (.int 1))) mNil)) (mBin fLt (mBin fIx (mVar 1) (mVar 2)) (mBin fIx (mVar 1) (mBin fAdd (mVar 2) (mCst (.int 1))))))))
def f_is_lot : MF := mBody 4 m_is_lot
theorem sc_is_lot : FnScope N_is_lot ["size", "value"] (defScope (top 10)) := ⟨rfl, rfl, rfl, by decide +kernel, rfl, by decide +kernel, by decide +kernel⟩
theorem d_is_lot {P : Program} {w : World} {K : PySem.W.Frag} {mg : Str → Option Value} {base : Heap} {T : List Addr × List Int} (h : Hd K mg base T.1) : Fn P w K mg base T "is_lot" 3 2 (f_is_lot) := by
  refine def_mk (h.d_is_lot) sc_is_lot rfl rfl (fun _ _ _ _ _ _ us hl => match us, hl with | [_, _], _ => rfl) ?_
  rintro G Y f c0 A outer s H E rfl rfl rfl rfl hgen c
  have B := h.nm
  obtain ⟨Pt, tb, tabs⟩ := hgen rfl
  exact (ss_cons (ss_if (st_w (sw_or (st_not (st_val (se_isTup c (sv 1) B.isinstance rfl B.tuple rfl rfl rfl))) (sw_or (st_not (st_tru c.ft (sv 1))) (sw_or1 (st_not (st_val (se_allG (k := 1) (own := [("one", 3)]) ⟨c.ft, c.hr, tb, tabs, rfl, (genOk_by (own := [("one", 3)]) (N := N_is_lot) (sc := (defScope (top 10))) (by decide +kernel)), c.nd, (si_it c (sv 1)), fun _ => rfl, rfl, fun _ _ _ _ _ _ _ _ _ => (pg_name (i := 3) c.nd rfl (by first | exact Or.inl rfl | exact Or.inr rfl)), fun _ _ _ _ _ _ _ _ _ r => (se_call (Ct.gx c r) (d_is_in h) (by decide) (sa_cons (sv 3) (sa_cons se_int (sa_cons (se_sub (sv 0) se_int) sa_nil))) rfl (by decide) rfl rfl)⟩ rfl B.all)))))))
 (ss_one (ss_ret se_bl))
 ss_nil)
 (ss_one (ss_ret (se_allG (k := 1) (own := [("k", 2)]) ⟨c.ft, c.hr, tb, tabs, rfl, (genOk_by (own := [("k", 2)]) (N := N_is_lot) (sc := (defScope (top 10))) (by decide +kernel)), c.nd, (si_rng1 rfl B.range (sa_cons (se_sub (se_len0 c (sa_cons (sv 1) sa_nil) rfl B.len rfl) se_int) sa_nil)), fun _ => rfl, rfl, fun _ _ _ _ _ _ _ _ _ => (pg_name (i := 2) c.nd rfl (by first | exact Or.inl rfl | exact Or.inr rfl)), fun _ _ _ _ _ _ _ _ _ r => (se_cmp (op_ltA (Ct.gx c r)) (opr_ltA (Ct.gx c r)) (se_at (Ct.gx c r) (sv 1) (sv 2)) (se_at (Ct.gx c r) (sv 1) (se_add (Ct.gx c r) (sv 2) se_int)) (nomark _))⟩ rfl B.all))))
abbrev N_is_grouping : List Str := ["value", "people", "lot", "k"]
def m_is_grouping : MSt :=
 (mSeq (mIfS (mTOr (mTNot (mTb (mIs isTupD (mVar 0)))) (mTOr (mTNot (mTr (mVar 0))) (mTNot (mTb (mAllG (.one 2) [2] (mIt (mVar 0)) (mFn 2 f_is_lot (mCons (mCst (.int 6)) (mCons (mVar 2) mNil))))))))
 (mRet (mCst (.bl false)))
 mNext)
 (mSeq (mAsg 1 (mLst mNil))
 (mSeq (mForS (.one 2) (mIt (mVar 0))
 (mAsg 1 (mBin fAdd (mVar 1) (mCall gListA (mCons (mVar 2) mNil)))))
 (mSeq (mIfS (mTb (mBin fNe (mCall gSortA (mCons (mVar 1) mNil)) (mListRg (mCall (f1 gLen) (mCons (mVar 1) mNil)))))
 (mRet (mCst (.bl false)))
 mNext)
 (mRet (mAllG (.one 3) [3] (mRng1 (mCons (mBin fSub (mCall (f1 gLen) (mCons (mVar 0) mNil)) (mCst (.int 1))) mNil)) (mBin fLt (mBin fIx (mVar 0) (mVar 3)) (mBin fIx (mVar 0) (mBin fAdd (mVar 3) (mCst (.int 1)))))))))))
def f_is_grouping : MF := mBody 4 m_is_grouping
theorem sc_is_grouping : FnScope N_is_grouping ["value"] (defScope (top 11)) := ⟨rfl, rfl, rfl, by decide +kernel, rfl, by decide +kernel, by decide +kernel⟩
theorem d_is_grouping {P : Program} {w : World} {K : PySem.W.Frag} {mg : Str → Option Value} {base : Heap} {T : List Addr × List Int} (h : Hd K mg base T.1) : Fn P w K mg base T "is_grouping" 5 1 (f_is_grouping) := by
  refine def_mk (h.d_is_grouping) sc_is_grouping rfl rfl (fun _ _ _ _ _ _ us hl => match us, hl with | [_], _ => rfl) ?_
  rintro G Y f c0 A outer s H E rfl rfl rfl rfl hgen c
  have B := h.nm
  obtain ⟨_, iMOST_PEOPLE⟩ := h.int_MOST_PEOPLE
  obtain ⟨Pt, tb, tabs⟩ := hgen rfl
  exact (ss_cons (ss_if (st_w (sw_or (st_not (st_val (se_isTup c (sv 0) B.isinstance rfl B.tuple rfl rfl rfl))) (sw_or (st_not (st_tru c.ft (sv 0))) (sw_or1 (st_not (st_val (se_allG (k := 3) (own := [("lot", 2)]) ⟨c.ft, c.hr, tb, tabs, rfl, (genOk_by (own := [("lot", 2)]) (N := N_is_grouping) (sc := (defScope (top 11))) (by decide +kernel)), c.nd, (si_it c (sv 0)), fun _ => rfl, rfl, fun _ _ _ _ _ _ _ _ _ => (pg_name (i := 2) c.nd rfl (by first | exact Or.inl rfl | exact Or.inr rfl)), fun _ _ _ _ _ _ _ _ _ r => (se_call (Ct.gx c r) (d_is_lot h) (by decide) (sa_cons (se_glob rfl iMOST_PEOPLE) (sa_cons (sv 2) sa_nil)) rfl (by decide) rfl rfl)⟩ rfl B.all)))))))
 (ss_one (ss_ret se_bl))
 ss_nil)
 (ss_cons (ss_set c.nd rfl (by first | exact Or.inl rfl | exact Or.inr rfl) (se_lst sa_nil))
 (ss_cons (ss_for PassesOwn.never c.ft (si_it c (sv 0)) (pg_name (i := 2) c.nd rfl (by first | exact Or.inl rfl | exact Or.inr rfl))
 (ss_one (ss_set c.nd rfl (by first | exact Or.inl rfl | exact Or.inr rfl) (se_add c (sv 1) (se_list0 c (sa_cons (sv 2) sa_nil) rfl B.list rfl)))) (fun _ => rfl))
 (ss_cons (ss_if (st_cmp (op_neD c.u64) opr_ne (se_sorted0 c (sa_cons (sv 1) sa_nil) rfl B.sorted rfl) (se_listRg c (se_len0 c (sa_cons (sv 1) sa_nil) rfl B.len rfl) B.list B.range rfl rfl rfl rfl) (nomark _))
 (ss_one (ss_ret se_bl))
 ss_nil)
 (ss_one (ss_ret (se_allG (k := 3) (own := [("k", 3)]) ⟨c.ft, c.hr, tb, tabs, rfl, (genOk_by (own := [("k", 3)]) (N := N_is_grouping) (sc := (defScope (top 11))) (by decide +kernel)), c.nd, (si_rng1 rfl B.range (sa_cons (se_sub (se_len0 c (sa_cons (sv 0) sa_nil) rfl B.len rfl) se_int) sa_nil)), fun _ => rfl, rfl, fun _ _ _ _ _ _ _ _ _ => (pg_name (i := 3) c.nd rfl (by first | exact Or.inl rfl | exact Or.inr rfl)), fun _ _ _ _ _ _ _ _ _ r => (se_cmp (op_ltA (Ct.gx c r)) (opr_ltA (Ct.gx c r)) (se_at (Ct.gx c r) (sv 0) (sv 3)) (se_at (Ct.gx c r) (sv 0) (se_add (Ct.gx c r) (sv 3) se_int)) (nomark _))⟩ rfl B.all)))))))
abbrev N_size_of : List Str := ["grouping", "lot"]
def m_size_of : MSt :=
 (mRet (mSumG (.one 1) [1] (mIt (mVar 0)) (mCall (f1 gLen) (mCons (mVar 1) mNil))))
def f_size_of : MF := mBody 2 m_size_of
theorem sc_size_of : FnScope N_size_of ["grouping"] (defScope (top 12)) := ⟨rfl, rfl, rfl, by decide +kernel, rfl, by decide +kernel, by decide +kernel⟩
theorem d_size_of {P : Program} {w : World} {K : PySem.W.Frag} {mg : Str → Option Value} {base : Heap} {T : List Addr × List Int} (h : Hd K mg base T.1) : Fn P w K mg base T "size_of" 2 1 (f_size_of) := by
  refine def_mk (h.d_size_of) sc_size_of rfl rfl (fun _ _ _ _ _ _ us hl => match us, hl with | [_], _ => rfl) ?_
  rintro G Y f c0 A outer s H E rfl rfl rfl rfl hgen c
  have B := h.nm
  obtain ⟨Pt, tb, tabs⟩ := hgen rfl
  exact (ss_one (ss_ret (se_sumG (k := 0) (own := [("lot", 1)]) ⟨c.ft, c.hr, tb, tabs, rfl, (genOk_by (own := [("lot", 1)]) (N := N_size_of) (sc := (defScope (top 12))) (by decide +kernel)), c.nd, (si_it c (sv 0)), fun _ => rfl, rfl, fun _ _ _ _ _ _ _ _ _ => (pg_name (i := 1) c.nd rfl (by first | exact Or.inl rfl | exact Or.inr rfl)), fun _ _ _ _ _ _ _ _ _ r => (se_len0 (Ct.gx c r) (sa_cons (sv 1) sa_nil) rfl B.len rfl)⟩ rfl B.sum)))
abbrev N_need_grouping : List Str := ["grouping"]
def m_need_grouping : MSt :=
 (mIfS (mTNot (mTb (mFn 1 f_is_grouping (mCons (mVar 0) mNil))))
 mNever
 mNext)
def f_need_grouping : MF := mBody 1 m_need_grouping
theorem sc_need_grouping : FnScope N_need_grouping ["grouping"] (defScope (top 13)) := ⟨rfl, rfl, rfl, by decide +kernel, rfl, by decide +kernel, by decide +kernel⟩
theorem d_need_grouping {P : Program} {w : World} {K : PySem.W.Frag} {mg : Str → Option Value} {base : Heap} {T : List Addr × List Int} (h : Hd K mg base T.1) : Fn P w K mg base T "need_grouping" 6 1 (f_need_grouping) := by
  refine def_mk (h.d_need_grouping) sc_need_grouping rfl rfl (fun _ _ _ _ _ _ us hl => match us, hl with | [_], _ => rfl) ?_
  rintro G Y f c0 A outer s H E rfl rfl rfl rfl hgen c
  have B := h.nm
  exact (ss_one (ss_if (st_not (st_val (se_call c (d_is_grouping h) (by decide) (sa_cons (sv 0) sa_nil) rfl (by decide) rfl rfl)))
 (ss_one ss_never)
 ss_nil))
abbrev N_all_groupings : List Str := ["size", "found", "person", "more", "grouping", "at", "lot"]
def m_all_groupings : MSt :=
 (mSeq (mAsg 1 (mLst (mCons (mTup mNil) mNil)))
 (mSeq (mForS (.one 2) (mRng1 (mCons (mVar 0) mNil))
 (mSeq (mAsg 3 (mLst mNil))
 (mSeq (mFrz 1 (mForS (.one 4) (mIt (mVar 1))
 (mSeq (mForS (.many [5, 6]) (mEn (mCons (mVar 4) mNil))
 (mApp 3 (mTup (mStar (mSl fSlT (mVar 4) mONone (mOSome (mVar 5))) (mCons (mTup (mStar (mVar 6) (mCons (mVar 2) mNil))) (mStar (mSl fSlT (mVar 4) (mOSome (mBin fAdd (mVar 5) (mCst (.int 1)))) mONone) mNil))))))
 (mApp 3 (mTup (mStar (mVar 4) (mCons (mTup (mCons (mVar 2) mNil)) mNil)))))))
 (mFrz 3 (mAsg 1 (mVar 3))))))
 (mRet (mCall gSortA (mCons (mVar 1) mNil)))))
def f_all_groupings : MF := mBody 7 m_all_groupings
theorem sc_all_groupings : FnScope N_all_groupings ["size"] (defScope (top 14)) := ⟨rfl, rfl, rfl, by decide +kernel, rfl, by decide +kernel, by decide +kernel⟩
theorem d_all_groupings {P : Program} {w : World} {K : PySem.W.Frag} {mg : Str → Option Value} {base : Heap} {T : List Addr × List Int} (h : Hd K mg base T.1) : Fn P w K mg base T "all_groupings" 1 1 (f_all_groupings) := by
  refine def_mk (h.d_all_groupings) sc_all_groupings rfl rfl (fun _ _ _ _ _ _ us hl => match us, hl with | [_], _ => rfl) ?_
  rintro G Y f c0 A outer s H E rfl rfl rfl rfl hgen c
  have B := h.nm
  exact (ss_cons (ss_set c.nd rfl (by first | exact Or.inl rfl | exact Or.inr rfl) (se_lst (sa_cons (se_tup sa_nil) sa_nil)))
 (ss_cons (ss_for PassesOwn.never c.ft (si_rng1 rfl B.range (sa_cons (sv 0) sa_nil)) (pg_name (i := 2) c.nd rfl (by first | exact Or.inl rfl | exact Or.inr rfl))
 (ss_cons (ss_set c.nd rfl (by first | exact Or.inl rfl | exact Or.inr rfl) (se_lst sa_nil))
 (ss_cons (ss_frz 1 (ss_for PassesOwn.never c.ft (si_it c (sv 1)) (pg_name (i := 4) c.nd rfl (by first | exact Or.inl rfl | exact Or.inr rfl))
 (ss_cons (ss_for PassesOwn.never c.ft (si_en c B.enumerate (sa_cons (sv 4) sa_nil)) (pg_tup c.ft.calm (pgs_cons (pg_name (i := 5) c.nd rfl (by first | exact Or.inl rfl | exact Or.inr rfl)) (pgs_cons (pg_name (i := 6) c.nd rfl (by first | exact Or.inl rfl | exact Or.inr rfl)) pgs_nil)))
 (ss_one (ss_append 3 c (pv 3) (se_tup (sa_star c.ft (se_slT (x1 := ⟨0, 0, 0, 0⟩) c.ft (sv 4) so_none (so_some (sv 5))) (sa_cons (se_tup (sa_star c.ft (sv 6) (sa_cons (sv 2) sa_nil))) (sa_star c.ft (se_slT (x1 := ⟨0, 0, 0, 0⟩) c.ft (sv 4) (so_some (se_add c (sv 5) se_int)) so_none) sa_nil)))) rfl rfl rfl rfl rfl rfl)) (fun _ => rfl))
 (ss_one (ss_append 3 c (pv 3) (se_tup (sa_star c.ft (sv 4) (sa_cons (se_tup (sa_cons (sv 2) sa_nil)) sa_nil))) rfl rfl rfl rfl rfl rfl))) (fun _ => rfl)))
 (ss_one (ss_frz 3 (ss_set c.nd rfl (by first | exact Or.inl rfl | exact Or.inr rfl) (sv 3)))))) (fun _ => rfl))
 (ss_one (ss_ret (se_sorted0 c (sa_cons (sv 1) sa_nil) rfl B.sorted rfl)))))
abbrev N_is_step : List Str := ["size", "value"]
def m_is_step : MSt :=
 (mRet (mAnd (mFn 2 f_is_lot (mCons (mVar 0) (mCons (mVar 1) mNil))) (mBin fLe (mCall (f1 gLen) (mCons (mVar 1) mNil)) (mCst (.int 2)))))
def f_is_step : MF := mBody 2 m_is_step
theorem sc_is_step : FnScope N_is_step ["size", "value"] (defScope (top 15)) := ⟨rfl, rfl, rfl, by decide +kernel, rfl, by decide +kernel, by decide +kernel⟩
theorem d_is_step {P : Program} {w : World} {K : PySem.W.Frag} {mg : Str → Option Value} {base : Heap} {T : List Addr × List Int} (h : Hd K mg base T.1) : Fn P w K mg base T "is_step" 4 2 (f_is_step) := by
  refine def_mk (h.d_is_step) sc_is_step rfl rfl (fun _ _ _ _ _ _ us hl => match us, hl with | [_, _], _ => rfl) ?_
  rintro G Y f c0 A outer s H E rfl rfl rfl rfl hgen c
  have B := h.nm
  exact (ss_one (ss_ret (se_and (se_call c (d_is_lot h) (by decide) (sa_cons (sv 0) (sa_cons (sv 1) sa_nil)) rfl (by decide) rfl rfl) (se_one (se_cmp op_le opr_intB (se_len0 c (sa_cons (sv 1) sa_nil) rfl B.len rfl) se_int (nomark _))))))
abbrev N_lot_with : List Str := ["grouping", "person", "lot"]
def m_lot_with : MSt :=
 (mRet (mBin fIx (mLc (.one 2) [2] (mIt (mVar 0)) (mTb (mBin (fIn false) (mVar 1) (mVar 2))) (mVar 2)) (mCst (.int 0))))
def f_lot_with : MF := mBody 3 m_lot_with
theorem sc_lot_with : FnScope N_lot_with ["grouping", "person"] (defScope (top 16)) := ⟨rfl, rfl, rfl, by decide +kernel, rfl, by decide +kernel, by decide +kernel⟩
theorem d_lot_with {P : Program} {w : World} {K : PySem.W.Frag} {mg : Str → Option Value} {base : Heap} {T : List Addr × List Int} (h : Hd K mg base T.1) : Fn P w K mg base T "lot_with" 1 2 (f_lot_with) := by
  refine def_mk (h.d_lot_with) sc_lot_with rfl rfl (fun _ _ _ _ _ _ us hl => match us, hl with | [_, _], _ => rfl) ?_
  rintro G Y f c0 A outer s H E rfl rfl rfl rfl hgen c
  have B := h.nm
  exact (ss_one (ss_ret (se_at c (se_lc (own := [("lot", 2)]) ⟨c.ft, c.nd, (si_it c (sv 0)), (blkOk_by (own := [("lot", 2)]) (N := N_lot_with) (sc := (defScope (top 16))) (by decide +kernel)), fun _ _ _ _ _ => (pg_name (i := 2) c.blk.nd rfl (by first | exact Or.inl rfl | exact Or.inr rfl)), fun _ _ _ _ _ => (sts_one (st_cmp (op_inA c.blk) (opr_inA c.blk) (sv 1) (sv 2) rfl)), fun _ _ _ _ _ => (sv 2), fun _ => rfl, rfl⟩) se_int)))
abbrev N_joined : List Str := ["grouping", "one", "other", "first", "second", "rest", "lot"]
def m_joined : MSt :=
 (mSeq (mPar [3, 4] (mCons (mFn 2 f_lot_with (mCons (mVar 0) (mCons (mVar 1) mNil))) (mCons (mFn 2 f_lot_with (mCons (mVar 0) (mCons (mVar 2) mNil))) mNil)))
 (mSeq (mIfS (mTb (mBin fEq (mVar 3) (mVar 4)))
 (mRetVar 0)
 mNext)
 (mSeq (mAsg 5 (mLc (.one 6) [6] (mIt (mVar 0)) (mTb (mBin (fIn true) (mVar 6) (mTup (mCons (mVar 3) (mCons (mVar 4) mNil))))) (mVar 6)))
 (mRet (mCall (f1 gTuple) (mCons (mCall gSortA (mCons (mLst (mStar (mVar 5) (mCons (mCall (f1 gTuple) (mCons (mCall gSortA (mCons (mLst (mStar (mVar 3) (mStar (mVar 4) mNil))) mNil)) mNil)) mNil))) mNil)) mNil))))))
def f_joined : MF := mBody 7 m_joined
theorem sc_joined : FnScope N_joined ["grouping", "one", "other"] (defScope (top 17)) := ⟨rfl, rfl, rfl, by decide +kernel, rfl, by decide +kernel, by decide +kernel⟩
theorem d_joined {P : Program} {w : World} {K : PySem.W.Frag} {mg : Str → Option Value} {base : Heap} {T : List Addr × List Int} (h : Hd K mg base T.1) : Fn P w K mg base T "joined" 2 3 (f_joined) := by
  refine def_mk (h.d_joined) sc_joined rfl rfl (fun _ _ _ _ _ _ us hl => match us, hl with | [_, _, _], _ => rfl) ?_
  rintro G Y f c0 A outer s H E rfl rfl rfl rfl hgen c
  have B := h.nm
  exact (ss_cons (ss_tupd c.ft.calm (sa_cons (se_call c (d_lot_with h) (by decide) (sa_cons (sv 0) (sa_cons (sv 1) sa_nil)) rfl (by decide) rfl rfl) (sa_cons (se_call c (d_lot_with h) (by decide) (sa_cons (sv 0) (sa_cons (sv 2) sa_nil)) rfl (by decide) rfl rfl) sa_nil)) (pgs_cons (pg_name (i := 3) c.nd rfl (by first | exact Or.inl rfl | exact Or.inr rfl)) (pgs_cons (pg_name (i := 4) c.nd rfl (by first | exact Or.inl rfl | exact Or.inr rfl)) pgs_nil)))
 (ss_cons (ss_if (st_cmp (op_eqD c.u64) opr_eq (sv 3) (sv 4) (nomark _))
 (ss_one (ss_retv (pv 0)))
 ss_nil)
 (ss_cons (ss_lc (own := [("lot", 6)]) ⟨c.ft, c.nd, (si_it c (sv 0)), (blkOk_by (own := [("lot", 6)]) (N := N_joined) (sc := (defScope (top 17))) (by decide +kernel)), fun _ _ _ _ _ => (pg_name (i := 6) c.blk.nd rfl (by first | exact Or.inl rfl | exact Or.inr rfl)), fun _ _ _ _ _ => (sts_one (st_cmp (op_ninA c.blk) (opr_inA c.blk) (sv 6) (se_tup (sa_cons (sv 3) (sa_cons (sv 4) sa_nil))) rfl)), fun _ _ _ _ _ => (sv 6), fun _ => rfl, rfl⟩ (hy := rfl) (hyl := rfl) (hsw := rfl))
 (ss_one (ss_ret (se_tuple0 c (sa_cons (se_sorted0 c (sa_cons (se_lst (sa_star c.ft (sv 5) (sa_cons (se_tuple0 c (sa_cons (se_sorted0 c (sa_cons (se_lst (sa_star c.ft (sv 3) (sa_star c.ft (sv 4) sa_nil))) sa_nil) rfl B.sorted rfl) sa_nil) rfl B.tuple rfl) sa_nil))) sa_nil) rfl B.sorted rfl) sa_nil) rfl B.tuple rfl))))))
abbrev N_left : List Str := ["grouping", "person", "lot", "rest", "others", "other", "one"]
def m_left : MSt :=
 (mSeq (mAsg 2 (mFn 2 f_lot_with (mCons (mVar 0) (mCons (mVar 1) mNil))))
 (mSeq (mAsg 3 (mLc (.one 5) [5] (mIt (mVar 0)) (mTb (mBin fNe (mVar 5) (mVar 2))) (mVar 5)))
 (mSeq (mAsg 4 (mCall (f1 gTuple) (mCons (mLc (.one 6) [6] (mIt (mVar 2)) (mTb (mBin fNe (mVar 6) (mVar 1))) (mVar 6)) mNil)))
 (mRet (mCall (f1 gTuple) (mCons (mCall gSortA (mCons (mLst (mStar (mVar 3) (mStar (mIf (mTr (mVar 4)) (mLst (mCons (mVar 4) mNil)) (mLst mNil)) (mCons (mTup (mCons (mVar 1) mNil)) mNil)))) mNil)) mNil))))))
def f_left : MF := mBody 7 m_left
theorem sc_left : FnScope N_left ["grouping", "person"] (defScope (top 18)) := ⟨rfl, rfl, rfl, by decide +kernel, rfl, by decide +kernel, by decide +kernel⟩
theorem d_left {P : Program} {w : World} {K : PySem.W.Frag} {mg : Str → Option Value} {base : Heap} {T : List Addr × List Int} (h : Hd K mg base T.1) : Fn P w K mg base T "left" 2 2 (f_left) := by
  refine def_mk (h.d_left) sc_left rfl rfl (fun _ _ _ _ _ _ us hl => match us, hl with | [_, _], _ => rfl) ?_
  rintro G Y f c0 A outer s H E rfl rfl rfl rfl hgen c
  have B := h.nm
  exact (ss_cons (ss_set c.nd rfl (by first | exact Or.inl rfl | exact Or.inr rfl) (se_call c (d_lot_with h) (by decide) (sa_cons (sv 0) (sa_cons (sv 1) sa_nil)) rfl (by decide) rfl rfl))
 (ss_cons (ss_lc (own := [("other", 5)]) ⟨c.ft, c.nd, (si_it c (sv 0)), (blkOk_by (own := [("other", 5)]) (N := N_left) (sc := (defScope (top 18))) (by decide +kernel)), fun _ _ _ _ _ => (pg_name (i := 5) c.blk.nd rfl (by first | exact Or.inl rfl | exact Or.inr rfl)), fun _ _ _ _ _ => (sts_one (st_cmp (op_neD c.blk.u64) opr_ne (sv 5) (sv 2) (nomark _))), fun _ _ _ _ _ => (sv 5), fun _ => rfl, rfl⟩ (hy := rfl) (hyl := rfl) (hsw := rfl))
 (ss_cons (ss_set c.nd rfl (by first | exact Or.inl rfl | exact Or.inr rfl) (se_tuple0 c (sa_cons (se_lc (own := [("one", 6)]) ⟨c.ft, c.nd, (si_it c (sv 2)), (blkOk_by (own := [("one", 6)]) (N := N_left) (sc := (defScope (top 18))) (by decide +kernel)), fun _ _ _ _ _ => (pg_name (i := 6) c.blk.nd rfl (by first | exact Or.inl rfl | exact Or.inr rfl)), fun _ _ _ _ _ => (sts_one (st_cmp (op_neD c.blk.u64) opr_ne (sv 6) (sv 1) (nomark _))), fun _ _ _ _ _ => (sv 6), fun _ => rfl, rfl⟩) sa_nil) rfl B.tuple rfl))
 (ss_one (ss_ret (se_tuple0 c (sa_cons (se_sorted0 c (sa_cons (se_lst (sa_star c.ft (sv 3) (sa_star c.ft (se_if (st_tru c.ft (sv 4)) (se_lst (sa_cons (sv 4) sa_nil)) (se_lst sa_nil)) (sa_cons (se_tup (sa_cons (sv 1) sa_nil)) sa_nil)))) sa_nil) rfl B.sorted rfl) sa_nil) rfl B.tuple rfl))))))
abbrev N_stepped : List Str := ["grouping", "step"]
def m_stepped : MSt :=
 (mRet (mIf (mTb (mBin fEq (mCall (f1 gLen) (mCons (mVar 1) mNil)) (mCst (.int 1)))) (mFn 2 f_left (mCons (mVar 0) (mCons (mBin fIx (mVar 1) (mCst (.int 0))) mNil))) (mFn 3 f_joined (mCons (mVar 0) (mCons (mBin fIx (mVar 1) (mCst (.int 0))) (mCons (mBin fIx (mVar 1) (mCst (.int 1))) mNil))))))
def f_stepped : MF := mBody 2 m_stepped
theorem sc_stepped : FnScope N_stepped ["grouping", "step"] (defScope (top 19)) := ⟨rfl, rfl, rfl, by decide +kernel, rfl, by decide +kernel, by decide +kernel⟩
theorem d_stepped {P : Program} {w : World} {K : PySem.W.Frag} {mg : Str → Option Value} {base : Heap} {T : List Addr × List Int} (h : Hd K mg base T.1) : Fn P w K mg base T "stepped" 3 2 (f_stepped) := by
  refine def_mk (h.d_stepped) sc_stepped rfl rfl (fun _ _ _ _ _ _ us hl => match us, hl with | [_, _], _ => rfl) ?_
  rintro G Y f c0 A outer s H E rfl rfl rfl rfl hgen c
  have B := h.nm
  exact (ss_one (ss_ret (se_if (st_cmp (op_eqD c.u64) opr_eq (se_len0 c (sa_cons (sv 1) sa_nil) rfl B.len rfl) se_int (nomark _)) (se_call c (d_left h) (by decide) (sa_cons (sv 0) (sa_cons (se_at c (sv 1) se_int) sa_nil)) rfl (by decide) rfl rfl) (se_call c (d_joined h) (by decide) (sa_cons (sv 0) (sa_cons (se_at c (sv 1) se_int) (sa_cons (se_at c (sv 1) se_int) sa_nil))) rfl (by decide) rfl rfl))))
abbrev N_are_steps : List Str := ["size", "value", "most", "step"]
def m_are_steps : MSt :=
 (mRet (mAnd (mIs isTupD (mVar 1)) (mAnd (mBin fLe (mCall (f1 gLen) (mCons (mVar 1) mNil)) (mVar 2)) (mAllG (.one 3) [3] (mIt (mVar 1)) (mFn 2 f_is_step (mCons (mVar 0) (mCons (mVar 3) mNil)))))))
def f_are_steps : MF := mBody 4 m_are_steps
theorem sc_are_steps : FnScope N_are_steps ["size", "value", "most"] (defScope (top 20)) := ⟨rfl, rfl, rfl, by decide +kernel, rfl, by decide +kernel, by decide +kernel⟩
theorem d_are_steps {P : Program} {w : World} {K : PySem.W.Frag} {mg : Str → Option Value} {base : Heap} {T : List Addr × List Int} (h : Hd K mg base T.1) : Fn P w K mg base T "are_steps" 6 3 (f_are_steps) := by
  refine def_mk (h.d_are_steps) sc_are_steps rfl rfl (fun _ _ _ _ _ _ us hl => match us, hl with | [_, _, _], _ => rfl) ?_
  rintro G Y f c0 A outer s H E rfl rfl rfl rfl hgen c
  have B := h.nm
  obtain ⟨Pt, tb, tabs⟩ := hgen rfl
  exact (ss_one (ss_ret (se_and (se_isTup c (sv 1) B.isinstance rfl B.tuple rfl rfl rfl) (se_and (se_cmp op_le opr_intB (se_len0 c (sa_cons (sv 1) sa_nil) rfl B.len rfl) (sv 2) (nomark _)) (se_one (se_allG (k := 4) (own := [("step", 3)]) ⟨c.ft, c.hr, tb, tabs, rfl, (genOk_by (own := [("step", 3)]) (N := N_are_steps) (sc := (defScope (top 20))) (by decide +kernel)), c.nd, (si_it c (sv 1)), fun _ => rfl, rfl, fun _ _ _ _ _ _ _ _ _ => (pg_name (i := 3) c.nd rfl (by first | exact Or.inl rfl | exact Or.inr rfl)), fun _ _ _ _ _ _ _ _ _ r => (se_call (Ct.gx c r) (d_is_step h) (by decide) (sa_cons (sv 0) (sa_cons (sv 3) sa_nil)) rfl (by decide) rfl rfl)⟩ rfl B.all))))))
abbrev N_is_row : List Str := ["size", "value"]
def m_is_row : MSt :=
 (mRet (mFn 3 f_are_steps (mCons (mVar 0) (mCons (mVar 1) (mCons (mCst (.int 40)) mNil)))))
def f_is_row : MF := mBody 2 m_is_row
theorem sc_is_row : FnScope N_is_row ["size", "value"] (defScope (top 21)) := ⟨rfl, rfl, rfl, by decide +kernel, rfl, by decide +kernel, by decide +kernel⟩
theorem d_is_row {P : Program} {w : World} {K : PySem.W.Frag} {mg : Str → Option Value} {base : Heap} {T : List Addr × List Int} (h : Hd K mg base T.1) : Fn P w K mg base T "is_row" 7 2 (f_is_row) := by
  refine def_mk (h.d_is_row) sc_is_row rfl rfl (fun _ _ _ _ _ _ us hl => match us, hl with | [_, _], _ => rfl) ?_
  rintro G Y f c0 A outer s H E rfl rfl rfl rfl hgen c
  have B := h.nm
  obtain ⟨_, iMOST_ROW⟩ := h.int_MOST_ROW
  exact (ss_one (ss_ret (se_call c (d_are_steps h) (by decide) (sa_cons (sv 0) (sa_cons (sv 1) (sa_cons (se_glob rfl iMOST_ROW) sa_nil))) rfl (by decide) rfl rfl)))
abbrev N_trace : List Str := ["grouping", "row", "found", "step"]
def m_trace : MSt :=
 (mSeq (mAsg 2 (mLst (mCons (mVar 0) mNil)))
 (mSeq (mForS (.one 3) (mIt (mVar 1))
 (mApp 2 (mFn 2 f_stepped (mCons (mBin fIx (mVar 2) (mNeg (mCst (.int 1)))) (mCons (mVar 3) mNil)))))
 (mRetVar 2)))
def f_trace : MF := mBody 4 m_trace
theorem sc_trace : FnScope N_trace ["grouping", "row"] (defScope (top 22)) := ⟨rfl, rfl, rfl, by decide +kernel, rfl, by decide +kernel, by decide +kernel⟩
theorem d_trace {P : Program} {w : World} {K : PySem.W.Frag} {mg : Str → Option Value} {base : Heap} {T : List Addr × List Int} (h : Hd K mg base T.1) : Fn P w K mg base T "trace" 4 2 (f_trace) := by
  refine def_mk (h.d_trace) sc_trace rfl rfl (fun _ _ _ _ _ _ us hl => match us, hl with | [_, _], _ => rfl) ?_
  rintro G Y f c0 A outer s H E rfl rfl rfl rfl hgen c
  have B := h.nm
  exact (ss_cons (ss_set c.nd rfl (by first | exact Or.inl rfl | exact Or.inr rfl) (se_lst (sa_cons (sv 0) sa_nil)))
 (ss_cons (ss_for PassesOwn.never c.ft (si_it c (sv 1)) (pg_name (i := 3) c.nd rfl (by first | exact Or.inl rfl | exact Or.inr rfl))
 (ss_one (ss_append 2 c (pv 2) (se_call c (d_stepped h) (by decide) (sa_cons (se_at c (sv 2) (se_neg se_int)) (sa_cons (sv 3) sa_nil)) rfl (by decide) rfl rfl) rfl rfl rfl rfl rfl rfl)) (fun _ => rfl))
 (ss_one (ss_retv (pv 2)))))
abbrev N_all_steps : List Str := ["size", "found", "one", "person", "other"]
def m_all_steps : MSt :=
 (mSeq (mAsg 1 (mLc (.one 3) [3] (mRng1 (mCons (mVar 0) mNil)) mYes (mTup (mCons (mVar 3) mNil))))
 (mSeq (mForS (.one 2) (mRng1 (mCons (mVar 0) mNil))
 (mAsg 1 (mBin fAdd (mVar 1) (mLc (.one 4) [4] (mRng2 (mCons (mBin fAdd (mVar 2) (mCst (.int 1))) (mCons (mVar 0) mNil))) mYes (mTup (mCons (mVar 2) (mCons (mVar 4) mNil)))))))
 (mRet (mCall gSortA (mCons (mVar 1) mNil)))))
def f_all_steps : MF := mBody 5 m_all_steps
theorem sc_all_steps : FnScope N_all_steps ["size"] (defScope (top 23)) := ⟨rfl, rfl, rfl, by decide +kernel, rfl, by decide +kernel, by decide +kernel⟩
theorem d_all_steps {P : Program} {w : World} {K : PySem.W.Frag} {mg : Str → Option Value} {base : Heap} {T : List Addr × List Int} (h : Hd K mg base T.1) : Fn P w K mg base T "all_steps" 1 1 (f_all_steps) := by
  refine def_mk (h.d_all_steps) sc_all_steps rfl rfl (fun _ _ _ _ _ _ us hl => match us, hl with | [_], _ => rfl) ?_
  rintro G Y f c0 A outer s H E rfl rfl rfl rfl hgen c
  have B := h.nm
  exact (ss_cons (ss_lc (own := [("person", 3)]) ⟨c.ft, c.nd, (si_rng1 rfl B.range (sa_cons (sv 0) sa_nil)), (blkOk_by (own := [("person", 3)]) (N := N_all_steps) (sc := (defScope (top 23))) (by decide +kernel)), fun _ _ _ _ _ => (pg_name (i := 3) c.blk.nd rfl (by first | exact Or.inl rfl | exact Or.inr rfl)), fun _ _ _ _ _ => sts_nil, fun _ _ _ _ _ => (se_tup (sa_cons (sv 3) sa_nil)), fun _ => rfl, rfl⟩ (hy := rfl) (hyl := rfl) (hsw := rfl))
 (ss_cons (ss_for PassesOwn.never c.ft (si_rng1 rfl B.range (sa_cons (sv 0) sa_nil)) (pg_name (i := 2) c.nd rfl (by first | exact Or.inl rfl | exact Or.inr rfl))
 (ss_one (ss_set c.nd rfl (by first | exact Or.inl rfl | exact Or.inr rfl) (se_add c (sv 1) (se_lc (own := [("other", 4)]) ⟨c.ft, c.nd, (si_rng2 rfl B.range (sa_cons (se_add c (sv 2) se_int) (sa_cons (sv 0) sa_nil))), (blkOk_by (own := [("other", 4)]) (N := N_all_steps) (sc := (defScope (top 23))) (by decide +kernel)), fun _ _ _ _ _ => (pg_name (i := 4) c.blk.nd rfl (by first | exact Or.inl rfl | exact Or.inr rfl)), fun _ _ _ _ _ => sts_nil, fun _ _ _ _ _ => (se_tup (sa_cons (sv 2) (sa_cons (sv 4) sa_nil))), fun _ => rfl, rfl⟩)))) (fun _ => rfl))
 (ss_one (ss_ret (se_sorted0 c (sa_cons (sv 1) sa_nil) rfl B.sorted rfl)))))
abbrev N_pairs_of : List Str := ["size", "found", "one", "other"]
def m_pairs_of : MSt :=
 (mSeq (mAsg 1 (mLst mNil))
 (mSeq (mForS (.one 2) (mRng1 (mCons (mVar 0) mNil))
 (mAsg 1 (mBin fAdd (mVar 1) (mLc (.one 3) [3] (mRng2 (mCons (mBin fAdd (mVar 2) (mCst (.int 1))) (mCons (mVar 0) mNil))) mYes (mTup (mCons (mVar 2) (mCons (mVar 3) mNil)))))))
 (mRetVar 1)))
def f_pairs_of : MF := mBody 4 m_pairs_of
theorem sc_pairs_of : FnScope N_pairs_of ["size"] (defScope (top 26)) := ⟨rfl, rfl, rfl, by decide +kernel, rfl, by decide +kernel, by decide +kernel⟩
theorem d_pairs_of {P : Program} {w : World} {K : PySem.W.Frag} {mg : Str → Option Value} {base : Heap} {T : List Addr × List Int} (h : Hd K mg base T.1) : Fn P w K mg base T "pairs_of" 1 1 (f_pairs_of) := by
  refine def_mk (h.d_pairs_of) sc_pairs_of rfl rfl (fun _ _ _ _ _ _ us hl => match us, hl with | [_], _ => rfl) ?_
  rintro G Y f c0 A outer s H E rfl rfl rfl rfl hgen c
  have B := h.nm
  exact (ss_cons (ss_set c.nd rfl (by first | exact Or.inl rfl | exact Or.inr rfl) (se_lst sa_nil))
 (ss_cons (ss_for PassesOwn.never c.ft (si_rng1 rfl B.range (sa_cons (sv 0) sa_nil)) (pg_name (i := 2) c.nd rfl (by first | exact Or.inl rfl | exact Or.inr rfl))
 (ss_one (ss_set c.nd rfl (by first | exact Or.inl rfl | exact Or.inr rfl) (se_add c (sv 1) (se_lc (own := [("other", 3)]) ⟨c.ft, c.nd, (si_rng2 rfl B.range (sa_cons (se_add c (sv 2) se_int) (sa_cons (sv 0) sa_nil))), (blkOk_by (own := [("other", 3)]) (N := N_pairs_of) (sc := (defScope (top 26))) (by decide +kernel)), fun _ _ _ _ _ => (pg_name (i := 3) c.blk.nd rfl (by first | exact Or.inl rfl | exact Or.inr rfl)), fun _ _ _ _ _ => sts_nil, fun _ _ _ _ _ => (se_tup (sa_cons (sv 2) (sa_cons (sv 3) sa_nil))), fun _ => rfl, rfl⟩)))) (fun _ => rfl))
 (ss_one (ss_retv (pv 1)))))
abbrev N_are_likings : List Str := ["size", "value", "one"]
def m_are_likings : MSt :=
 (mSeq (mIfS (mTOr (mTNot (mTb (mIs isTupD (mVar 1)))) (mTb (mBin fNe (mCall (f1 gLen) (mCons (mVar 1) mNil)) (mBin fDiv (mBin fMul (mVar 0) (mBin fSub (mVar 0) (mCst (.int 1)))) (mCst (.int 2))))))
 (mRet (mCst (.bl false)))
 mNext)
 (mRet (mAllG (.one 2) [2] (mIt (mVar 1)) (mFn 3 f_is_in (mCons (mVar 2) (mCons (mBin fSub (mCst (.int 0)) (mCst (.int 100))) (mCons (mCst (.int 100)) mNil)))))))
def f_are_likings : MF := mBody 3 m_are_likings
theorem sc_are_likings : FnScope N_are_likings ["size", "value"] (defScope (top 27)) := ⟨rfl, rfl, rfl, by decide +kernel, rfl, by decide +kernel, by decide +kernel⟩
theorem d_are_likings {P : Program} {w : World} {K : PySem.W.Frag} {mg : Str → Option Value} {base : Heap} {T : List Addr × List Int} (h : Hd K mg base T.1) : Fn P w K mg base T "are_likings" 3 2 (f_are_likings) := by
  refine def_mk (h.d_are_likings) sc_are_likings rfl rfl (fun _ _ _ _ _ _ us hl => match us, hl with | [_, _], _ => rfl) ?_
  rintro G Y f c0 A outer s H E rfl rfl rfl rfl hgen c
  have B := h.nm
  obtain ⟨_, iMOST_LIKING⟩ := h.int_MOST_LIKING
  obtain ⟨Pt, tb, tabs⟩ := hgen rfl
  exact (ss_cons (ss_if (st_w (sw_or (st_not (st_val (se_isTup c (sv 1) B.isinstance rfl B.tuple rfl rfl rfl))) (sw_or1 (st_cmp (op_neD c.u64) opr_ne (se_len0 c (sa_cons (sv 1) sa_nil) rfl B.len rfl) (se_div (se_mul c (sv 0) (se_sub (sv 0) se_int)) se_int) (nomark _)))))
 (ss_one (ss_ret se_bl))
 ss_nil)
 (ss_one (ss_ret (se_allG (k := 1) (own := [("one", 2)]) ⟨c.ft, c.hr, tb, tabs, rfl, (genOk_by (own := [("one", 2)]) (N := N_are_likings) (sc := (defScope (top 27))) (by decide +kernel)), c.nd, (si_it c (sv 1)), fun _ => rfl, rfl, fun _ _ _ _ _ _ _ _ _ => (pg_name (i := 2) c.nd rfl (by first | exact Or.inl rfl | exact Or.inr rfl)), fun _ _ _ _ _ _ _ _ _ r => (se_call (Ct.gx c r) (d_is_in h) (by decide) (sa_cons (sv 2) (sa_cons (se_sub se_int (se_glob rfl iMOST_LIKING)) (sa_cons (se_glob rfl iMOST_LIKING) sa_nil))) rfl (by decide) rfl rfl)⟩ rfl B.all))))
abbrev N_need_likings : List Str := ["size", "likings"]
def m_need_likings : MSt :=
 (mIfS (mTNot (mTb (mFn 2 f_are_likings (mCons (mVar 0) (mCons (mVar 1) mNil)))))
 mNever
 mNext)
def f_need_likings : MF := mBody 2 m_need_likings
theorem sc_need_likings : FnScope N_need_likings ["size", "likings"] (defScope (top 28)) := ⟨rfl, rfl, rfl, by decide +kernel, rfl, by decide +kernel, by decide +kernel⟩
theorem d_need_likings {P : Program} {w : World} {K : PySem.W.Frag} {mg : Str → Option Value} {base : Heap} {T : List Addr × List Int} (h : Hd K mg base T.1) : Fn P w K mg base T "need_likings" 4 2 (f_need_likings) := by
  refine def_mk (h.d_need_likings) sc_need_likings rfl rfl (fun _ _ _ _ _ _ us hl => match us, hl with | [_, _], _ => rfl) ?_
  rintro G Y f c0 A outer s H E rfl rfl rfl rfl hgen c
  have B := h.nm
  exact (ss_one (ss_if (st_not (st_val (se_call c (d_are_likings h) (by decide) (sa_cons (sv 0) (sa_cons (sv 1) sa_nil)) rfl (by decide) rfl rfl)))
 (ss_one ss_never)
 ss_nil))
abbrev N_worth_of : List Str := ["grouping", "likings", "found", "pair", "liking", "lot"]
def m_worth_of : MSt :=
 (mSeq (mAsg 2 (mCst (.int 0)))
 (mSeq (mForS (.many [3, 4]) (mZip (mCons (mFn 1 f_pairs_of (mCons (mFn 1 f_size_of (mCons (mVar 0) mNil)) mNil)) (mCons (mVar 1) mNil)))
 (mIfS (mTb (mAnyG (.one 5) [5] (mIt (mVar 0)) (mAnd (mBin (fIn false) (mBin fIx (mVar 3) (mCst (.int 0))) (mVar 5)) (mBin (fIn false) (mBin fIx (mVar 3) (mCst (.int 1))) (mVar 5)))))
 (mAsg 2 (mBin fAdd (mVar 2) (mVar 4)))
 mNext))
 (mRetVar 2)))
def f_worth_of : MF := mBody 6 m_worth_of
theorem sc_worth_of : FnScope N_worth_of ["grouping", "likings"] (defScope (top 29)) := ⟨rfl, rfl, rfl, by decide +kernel, rfl, by decide +kernel, by decide +kernel⟩
theorem d_worth_of {P : Program} {w : World} {K : PySem.W.Frag} {mg : Str → Option Value} {base : Heap} {T : List Addr × List Int} (h : Hd K mg base T.1) : Fn P w K mg base T "worth_of" 3 2 (f_worth_of) := by
  refine def_mk (h.d_worth_of) sc_worth_of rfl rfl (fun _ _ _ _ _ _ us hl => match us, hl with | [_, _], _ => rfl) ?_
  rintro G Y f c0 A outer s H E rfl rfl rfl rfl hgen c
  have B := h.nm
  obtain ⟨Pt, tb, tabs⟩ := hgen rfl
  exact (ss_cons (ss_set c.nd rfl (by first | exact Or.inl rfl | exact Or.inr rfl) se_int)
 (ss_cons (ss_for PassesOwn.never c.ft (si_zip c.ft rfl B.zip (sa_cons (se_call c (d_pairs_of h) (by decide) (sa_cons (se_call c (d_size_of h) (by decide) (sa_cons (sv 0) sa_nil) rfl (by decide) rfl rfl) sa_nil) rfl (by decide) rfl rfl) (sa_cons (sv 1) sa_nil))) (pg_tup c.ft.calm (pgs_cons (pg_name (i := 3) c.nd rfl (by first | exact Or.inl rfl | exact Or.inr rfl)) (pgs_cons (pg_name (i := 4) c.nd rfl (by first | exact Or.inl rfl | exact Or.inr rfl)) pgs_nil)))
 (ss_one (ss_if (st_val (se_anyG (k := 1) (own := [("lot", 5)]) ⟨c.ft, c.hr, tb, tabs, rfl, (genOk_by (own := [("lot", 5)]) (N := N_worth_of) (sc := (defScope (top 29))) (by decide +kernel)), c.nd, (si_it c (sv 0)), fun _ => rfl, rfl, fun _ _ _ _ _ _ _ _ _ => (pg_name (i := 5) c.nd rfl (by first | exact Or.inl rfl | exact Or.inr rfl)), fun _ _ _ _ _ _ _ _ _ r => (se_and (se_cmp (op_inA (Ct.gx c r)) (opr_inA (Ct.gx c r)) (se_at (Ct.gx c r) (sv 3) se_int) (sv 5) rfl) (se_one (se_cmp (op_inA (Ct.gx c r)) (opr_inA (Ct.gx c r)) (se_at (Ct.gx c r) (sv 3) se_int) (sv 5) rfl)))⟩ rfl B.any))
 (ss_one (ss_set c.nd rfl (by first | exact Or.inl rfl | exact Or.inr rfl) (se_add c (sv 2) (sv 4))))
 ss_nil)) (fun _ => rfl))
 (ss_one (ss_retv (pv 2)))))
end GD
/-! Jc -/
set_option maxHeartbeats 4000000
namespace GD
open PySem L2
abbrev N_are_prices : List Str := ["size", "value", "one", "part"]
def m_are_prices : MSt :=
 (mSeq (mIfS (mTOr (mTNot (mTb (mIs isTupD (mVar 1)))) (mTOr (mTb (mBin fNe (mCall (f1 gLen) (mCons (mVar 1) mNil)) (mCst (.int 2)))) (mTNot (mTb (mAllG (.one 3) [3] (mIt (mVar 1)) (mIs isTupD (mVar 3)))))))
 (mRet (mCst (.bl false)))
 mNext)
 (mSeq (mIfS (mTOr (mTb (mBin fNe (mCall (f1 gLen) (mCons (mBin fIx (mVar 1) (mCst (.int 0))) mNil)) (mVar 0))) (mTb (mBin fNe (mCall (f1 gLen) (mCons (mBin fIx (mVar 1) (mCst (.int 1))) mNil)) (mBin fDiv (mBin fMul (mVar 0) (mBin fSub (mVar 0) (mCst (.int 1)))) (mCst (.int 2))))))
 (mRet (mCst (.bl false)))
 mNext)
 (mRet (mAllG (.one 2) [2] (mIt (mTup (mStar (mBin fIx (mVar 1) (mCst (.int 0))) (mStar (mBin fIx (mVar 1) (mCst (.int 1))) mNil)))) (mFn 3 f_is_in (mCons (mVar 2) (mCons (mCst (.int 0)) (mCons (mCst (.int 1000)) mNil))))))))
def f_are_prices : MF := mBody 4 m_are_prices
theorem sc_are_prices : FnScope N_are_prices ["size", "value"] (defScope (top 33)) := ⟨rfl, rfl, rfl, by decide +kernel, rfl, by decide +kernel, by decide +kernel⟩
theorem d_are_prices {P : Program} {w : World} {K : PySem.W.Frag} {mg : Str → Option Value} {base : Heap} {T : List Addr × List Int} (h : Hd K mg base T.1) : Fn P w K mg base T "are_prices" 3 2 (f_are_prices) := by
  refine def_mk (h.d_are_prices) sc_are_prices rfl rfl (fun _ _ _ _ _ _ us hl => match us, hl with | [_, _], _ => rfl) ?_
  rintro G Y f c0 A outer s H E rfl rfl rfl rfl hgen c
  have B := h.nm
  obtain ⟨_, iMOST_PRICE⟩ := h.int_MOST_PRICE
  obtain ⟨Pt, tb, tabs⟩ := hgen rfl
  exact (ss_cons (ss_if (st_w (sw_or (st_not (st_val (se_isTup c (sv 1) B.isinstance rfl B.tuple rfl rfl rfl))) (sw_or (st_cmp (op_neD c.u64) opr_ne (se_len0 c (sa_cons (sv 1) sa_nil) rfl B.len rfl) se_int (nomark _)) (sw_or1 (st_not (st_val (se_allG (k := 1) (own := [("part", 3)]) ⟨c.ft, c.hr, tb, tabs, rfl, (genOk_by (own := [("part", 3)]) (N := N_are_prices) (sc := (defScope (top 33))) (by decide +kernel)), c.nd, (si_it c (sv 1)), fun _ => rfl, rfl, fun _ _ _ _ _ _ _ _ _ => (pg_name (i := 3) c.nd rfl (by first | exact Or.inl rfl | exact Or.inr rfl)), fun _ _ _ _ _ _ _ _ _ r => (se_isTup (Ct.gx c r) (sv 3) B.isinstance rfl B.tuple rfl rfl rfl)⟩ rfl B.all)))))))
 (ss_one (ss_ret se_bl))
 ss_nil)
 (ss_cons (ss_if (st_w (sw_or (st_cmp (op_neD c.u64) opr_ne (se_len0 c (sa_cons (se_at c (sv 1) se_int) sa_nil) rfl B.len rfl) (sv 0) (nomark _)) (sw_or1 (st_cmp (op_neD c.u64) opr_ne (se_len0 c (sa_cons (se_at c (sv 1) se_int) sa_nil) rfl B.len rfl) (se_div (se_mul c (sv 0) (se_sub (sv 0) se_int)) se_int) (nomark _)))))
 (ss_one (ss_ret se_bl))
 ss_nil)
 (ss_one (ss_ret (se_allG (k := 1) (own := [("one", 2)]) ⟨c.ft, c.hr, tb, tabs, rfl, (genOk_by (own := [("one", 2)]) (N := N_are_prices) (sc := (defScope (top 33))) (by decide +kernel)), c.nd, (si_it c (se_tup (sa_star c.ft (se_at c (sv 1) se_int) (sa_star c.ft (se_at c (sv 1) se_int) sa_nil)))), fun _ => rfl, rfl, fun _ _ _ _ _ _ _ _ _ => (pg_name (i := 2) c.nd rfl (by first | exact Or.inl rfl | exact Or.inr rfl)), fun _ _ _ _ _ _ _ _ _ r => (se_call (Ct.gx c r) (d_is_in h) (by decide) (sa_cons (sv 2) (sa_cons se_int (sa_cons (se_glob rfl iMOST_PRICE) sa_nil))) rfl (by decide) rfl rfl)⟩ rfl B.all)))))
abbrev N_need_prices : List Str := ["size", "prices"]
def m_need_prices : MSt :=
 (mIfS (mTNot (mTb (mFn 2 f_are_prices (mCons (mVar 0) (mCons (mVar 1) mNil)))))
 mNever
 mNext)
def f_need_prices : MF := mBody 2 m_need_prices
theorem sc_need_prices : FnScope N_need_prices ["size", "prices"] (defScope (top 34)) := ⟨rfl, rfl, rfl, by decide +kernel, rfl, by decide +kernel, by decide +kernel⟩
theorem d_need_prices {P : Program} {w : World} {K : PySem.W.Frag} {mg : Str → Option Value} {base : Heap} {T : List Addr × List Int} (h : Hd K mg base T.1) : Fn P w K mg base T "need_prices" 4 2 (f_need_prices) := by
  refine def_mk (h.d_need_prices) sc_need_prices rfl rfl (fun _ _ _ _ _ _ us hl => match us, hl with | [_, _], _ => rfl) ?_
  rintro G Y f c0 A outer s H E rfl rfl rfl rfl hgen c
  have B := h.nm
  exact (ss_one (ss_if (st_not (st_val (se_call c (d_are_prices h) (by decide) (sa_cons (sv 0) (sa_cons (sv 1) sa_nil)) rfl (by decide) rfl rfl)))
 (ss_one ss_never)
 ss_nil))
abbrev N_price_table : List Str := ["size", "prices", "found", "pairs", "one", "at", "pair", "person", "other"]
def m_price_table : MSt :=
 (mSeq (mPar [2, 3] (mCons (mDc (.one 7) [7] (mRng1 (mCons (mVar 0) mNil)) (mTup (mCons (mVar 7) mNil)) (mBin fIx (mBin fIx (mVar 1) (mCst (.int 0))) (mVar 7))) (mCons (mLst mNil) mNil)))
 (mSeq (mForS (.one 4) (mRng1 (mCons (mVar 0) mNil))
 (mAsg 3 (mBin fAdd (mVar 3) (mLc (.one 8) [8] (mRng2 (mCons (mBin fAdd (mVar 4) (mCst (.int 1))) (mCons (mVar 0) mNil))) mYes (mTup (mCons (mVar 4) (mCons (mVar 8) mNil)))))))
 (mSeq (mFrz 3 (mForS (.many [5, 6]) (mEn (mCons (mVar 3) mNil))
 (mPutT 2 (mVar 6) (mBin fIx (mBin fIx (mVar 1) (mCst (.int 1))) (mVar 5)))))
 (mRetVar 2))))
def f_price_table : MF := mBody 9 m_price_table
theorem sc_price_table : FnScope N_price_table ["size", "prices"] (defScope (top 35)) := ⟨rfl, rfl, rfl, by decide +kernel, rfl, by decide +kernel, by decide +kernel⟩
theorem d_price_table {P : Program} {w : World} {K : PySem.W.Frag} {mg : Str → Option Value} {base : Heap} {T : List Addr × List Int} (h : Hd K mg base T.1) : Fn P w K mg base T "price_table" 1 2 (f_price_table) := by
  refine def_mk (h.d_price_table) sc_price_table rfl rfl (fun _ _ _ _ _ _ us hl => match us, hl with | [_, _], _ => rfl) ?_
  rintro G Y f c0 A outer s H E rfl rfl rfl rfl hgen c
  have B := h.nm
  exact (ss_cons (ss_par c.ft.calm c.nd rfl rfl (by decide) rfl rfl (sa_cons (se_dc (own := [("person", 7)]) ⟨c.ft, c.u8, c.nd, (si_rng1 rfl B.range (sa_cons (sv 0) sa_nil)), (blkOk_by (own := [("person", 7)]) (N := N_price_table) (sc := (defScope (top 35))) (by decide +kernel)), fun _ _ _ _ _ => (pg_name (i := 7) c.blk.nd rfl (by first | exact Or.inl rfl | exact Or.inr rfl)), fun _ _ _ _ _ => (se_tup (sa_cons (sv 7) sa_nil)), fun _ _ _ _ _ => (se_at c.blk (se_at c.blk (sv 1) se_int) (sv 7)), fun _ => rfl, rfl⟩) (sa_cons (se_lst sa_nil) sa_nil)) rfl)
 (ss_cons (ss_for PassesOwn.never c.ft (si_rng1 rfl B.range (sa_cons (sv 0) sa_nil)) (pg_name (i := 4) c.nd rfl (by first | exact Or.inl rfl | exact Or.inr rfl))
 (ss_one (ss_set c.nd rfl (by first | exact Or.inl rfl | exact Or.inr rfl) (se_add c (sv 3) (se_lc (own := [("other", 8)]) ⟨c.ft, c.nd, (si_rng2 rfl B.range (sa_cons (se_add c (sv 4) se_int) (sa_cons (sv 0) sa_nil))), (blkOk_by (own := [("other", 8)]) (N := N_price_table) (sc := (defScope (top 35))) (by decide +kernel)), fun _ _ _ _ _ => (pg_name (i := 8) c.blk.nd rfl (by first | exact Or.inl rfl | exact Or.inr rfl)), fun _ _ _ _ _ => sts_nil, fun _ _ _ _ _ => (se_tup (sa_cons (sv 4) (sa_cons (sv 8) sa_nil))), fun _ => rfl, rfl⟩)))) (fun _ => rfl))
 (ss_cons (ss_frz 3 (ss_for PassesOwn.never c.ft (si_en c B.enumerate (sa_cons (sv 3) sa_nil)) (pg_tup c.ft.calm (pgs_cons (pg_name (i := 5) c.nd rfl (by first | exact Or.inl rfl | exact Or.inr rfl)) (pgs_cons (pg_name (i := 6) c.nd rfl (by first | exact Or.inl rfl | exact Or.inr rfl)) pgs_nil)))
 (ss_one (ss_stoT c (pv 2) (sv 6) (se_at c (se_at c (sv 1) se_int) (sv 5)))) (fun _ => rfl)))
 (ss_one (ss_retv (pv 2))))))
abbrev N_price_of : List Str := ["size", "prices", "row", "table", "step"]
def m_price_of : MSt :=
 (mSeq (mAsg 3 (mFn 2 f_price_table (mCons (mVar 0) (mCons (mVar 1) mNil))))
 (mRet (mSumG (.one 4) [4] (mIt (mVar 2)) (mBin fIx (mVar 3) (mVar 4)))))
def f_price_of : MF := mBody 5 m_price_of
theorem sc_price_of : FnScope N_price_of ["size", "prices", "row"] (defScope (top 36)) := ⟨rfl, rfl, rfl, by decide +kernel, rfl, by decide +kernel, by decide +kernel⟩
theorem d_price_of {P : Program} {w : World} {K : PySem.W.Frag} {mg : Str → Option Value} {base : Heap} {T : List Addr × List Int} (h : Hd K mg base T.1) : Fn P w K mg base T "price_of" 2 3 (f_price_of) := by
  refine def_mk (h.d_price_of) sc_price_of rfl rfl (fun _ _ _ _ _ _ us hl => match us, hl with | [_, _, _], _ => rfl) ?_
  rintro G Y f c0 A outer s H E rfl rfl rfl rfl hgen c
  have B := h.nm
  obtain ⟨Pt, tb, tabs⟩ := hgen rfl
  exact (ss_cons (ss_set c.nd rfl (by first | exact Or.inl rfl | exact Or.inr rfl) (se_call c (d_price_table h) (by decide) (sa_cons (sv 0) (sa_cons (sv 1) sa_nil)) rfl (by decide) rfl rfl))
 (ss_one (ss_ret (se_sumG (k := 0) (own := [("step", 4)]) ⟨c.ft, c.hr, tb, tabs, rfl, (genOk_by (own := [("step", 4)]) (N := N_price_of) (sc := (defScope (top 36))) (by decide +kernel)), c.nd, (si_it c (sv 2)), fun _ => rfl, rfl, fun _ _ _ _ _ _ _ _ _ => (pg_name (i := 4) c.nd rfl (by first | exact Or.inl rfl | exact Or.inr rfl)), fun _ _ _ _ _ _ _ _ _ r => (se_at (Ct.gx c r) (sv 3) (sv 4))⟩ rfl B.sum))))
abbrev N_rows_from : List Str := ["start", "prices", "size", "table", "found", "is_better", "here", "price", "many", "row", "step", "there", "part"]
def m_rows_from : MSt :=
 (mSeq (mAsg 2 (mFn 1 f_size_of (mCons (mVar 0) mNil)))
 (mSeq (mAsg 3 (mFn 2 f_price_table (mCons (mVar 2) (mCons (mVar 1) mNil))))
 (mSeq (mPar [4, 5] (mCons (mD1 (mVar 0) (mTup (mCons (mCst (.int 0)) (mCons (mCst (.int 0)) (mCons (mTup mNil) mNil))))) (mCons (mCst (.bl true)) mNil)))
 (mSeq (mWh (mTr (mVar 5))
 (mSeq (mAsg 5 (mCst (.bl false)))
 (mForS (.one 6) (mIt (mCall gSortA (mCons (mVar 4) mNil)))
 (mSeq (mUnp [7, 8, 9] (mBin fIx (mVar 4) (mVar 6)))
 (mForS (.one 10) (mIt (mFn 1 f_all_steps (mCons (mVar 2) mNil)))
 (mSeq (mPar [11, 12] (mCons (mFn 2 f_stepped (mCons (mVar 6) (mCons (mVar 10) mNil))) (mCons (mTup (mCons (mBin fAdd (mVar 7) (mBin fIx (mVar 3) (mVar 10))) (mCons (mBin fAdd (mVar 8) (mCst (.int 1))) mNil))) mNil)))
 (mIfS (mTOr (mTb (mBin (fIn true) (mVar 11) (mVar 4))) (mTb (mBin fLt (mVar 12) (mSl fSlT (mBin fIx (mVar 4) (mVar 11)) mONone (mOSome (mCst (.int 2)))))))
 (mSeq (mPutT 4 (mVar 11) (mTup (mStar (mVar 12) (mCons (mTup (mStar (mVar 9) (mCons (mVar 10) mNil))) mNil))))
 (mAsg 5 (mCst (.bl true))))
 mNext)))))) 10000)
 (mRetVar 4)))))
def f_rows_from : MF := mBody 13 m_rows_from
theorem sc_rows_from : FnScope N_rows_from ["start", "prices"] (defScope (top 39)) := ⟨rfl, rfl, rfl, by decide +kernel, rfl, by decide +kernel, by decide +kernel⟩
theorem d_rows_from {P : Program} {w : World} {K : PySem.W.Frag} {mg : Str → Option Value} {base : Heap} {T : List Addr × List Int} (h : Hd K mg base T.1) : Fn P w K mg base T "rows_from" 4 2 (f_rows_from) := by
  refine def_mk (h.d_rows_from) sc_rows_from rfl rfl (fun _ _ _ _ _ _ us hl => match us, hl with | [_, _], _ => rfl) ?_
  rintro G Y f c0 A outer s H E rfl rfl rfl rfl hgen c
  have B := h.nm
  exact (ss_cons (ss_set c.nd rfl (by first | exact Or.inl rfl | exact Or.inr rfl) (se_call c (d_size_of h) (by decide) (sa_cons (sv 0) sa_nil) rfl (by decide) rfl rfl))
 (ss_cons (ss_set c.nd rfl (by first | exact Or.inl rfl | exact Or.inr rfl) (se_call c (d_price_table h) (by decide) (sa_cons (sv 2) (sa_cons (sv 1) sa_nil)) rfl (by decide) rfl rfl))
 (ss_cons (ss_par c.ft.calm c.nd rfl rfl (by decide) rfl rfl (sa_cons (se_d1 c.ft c.u8 (sv 0) (se_tup (sa_cons se_int (sa_cons se_int (sa_cons (se_tup sa_nil) sa_nil))))) (sa_cons se_bl sa_nil)) rfl)
 (ss_cons (ss_while 10000 PassesOwn.never (st_tru c.ft (sv 5))
 (ss_cons (ss_set c.nd rfl (by first | exact Or.inl rfl | exact Or.inr rfl) se_bl)
 (ss_one (ss_for PassesOwn.never c.ft (si_it c (se_sorted0 c (sa_cons (sv 4) sa_nil) rfl B.sorted rfl)) (pg_name (i := 6) c.nd rfl (by first | exact Or.inl rfl | exact Or.inr rfl))
 (ss_cons (ss_unp c.ft (se_at c (sv 4) (sv 6)) (pgs_cons (pg_name (i := 7) c.nd rfl (by first | exact Or.inl rfl | exact Or.inr rfl)) (pgs_cons (pg_name (i := 8) c.nd rfl (by first | exact Or.inl rfl | exact Or.inr rfl)) (pgs_cons (pg_name (i := 9) c.nd rfl (by first | exact Or.inl rfl | exact Or.inr rfl)) pgs_nil))))
 (ss_one (ss_for PassesOwn.never c.ft (si_it c (se_call c (d_all_steps h) (by decide) (sa_cons (sv 2) sa_nil) rfl (by decide) rfl rfl)) (pg_name (i := 10) c.nd rfl (by first | exact Or.inl rfl | exact Or.inr rfl))
 (ss_cons (ss_par c.ft.calm c.nd rfl rfl (by decide) rfl rfl (sa_cons (se_call c (d_stepped h) (by decide) (sa_cons (sv 6) (sa_cons (sv 10) sa_nil)) rfl (by decide) rfl rfl) (sa_cons (se_tup (sa_cons (se_add c (sv 7) (se_at c (sv 3) (sv 10))) (sa_cons (se_add c (sv 8) se_int) sa_nil))) sa_nil)) rfl)
 (ss_one (ss_if (st_w (sw_or (st_cmp (op_ninA c) (opr_inA c) (sv 11) (sv 4) rfl) (sw_or1 (st_cmp (op_ltA c) (opr_ltA c) (sv 12) (se_slT (x1 := ⟨0, 0, 0, 0⟩) c.ft (se_at c (sv 4) (sv 11)) so_none (so_some se_int)) (nomark _)))))
 (ss_cons (ss_stoT c (pv 4) (sv 11) (se_tup (sa_star c.ft (sv 12) (sa_cons (se_tup (sa_star c.ft (sv 9) (sa_cons (sv 10) sa_nil))) sa_nil))))
 (ss_one (ss_set c.nd rfl (by first | exact Or.inl rfl | exact Or.inr rfl) se_bl)))
 ss_nil))) (fun _ => rfl)))) (fun _ => rfl)))))
 (ss_one (ss_retv (pv 4)))))))
abbrev N_need_net : List Str := ["start", "likings", "prices"]
def m_need_net : MSt :=
 (mSeq (mDrop (mFn 1 f_need_grouping (mCons (mVar 0) mNil)))
 (mSeq (mDrop (mFn 2 f_need_likings (mCons (mFn 1 f_size_of (mCons (mVar 0) mNil)) (mCons (mVar 1) mNil))))
 (mDrop (mFn 2 f_need_prices (mCons (mFn 1 f_size_of (mCons (mVar 0) mNil)) (mCons (mVar 2) mNil))))))
def f_need_net : MF := mBody 3 m_need_net
theorem sc_need_net : FnScope N_need_net ["start", "likings", "prices"] (defScope (top 40)) := ⟨rfl, rfl, rfl, by decide +kernel, rfl, by decide +kernel, by decide +kernel⟩
theorem d_need_net {P : Program} {w : World} {K : PySem.W.Frag} {mg : Str → Option Value} {base : Heap} {T : List Addr × List Int} (h : Hd K mg base T.1) : Fn P w K mg base T "need_net" 7 3 (f_need_net) := by
  refine def_mk (h.d_need_net) sc_need_net rfl rfl (fun _ _ _ _ _ _ us hl => match us, hl with | [_, _, _], _ => rfl) ?_
  rintro G Y f c0 A outer s H E rfl rfl rfl rfl hgen c
  have B := h.nm
  exact (ss_cons (ss_expr (se_call c (d_need_grouping h) (by decide) (sa_cons (sv 0) sa_nil) rfl (by decide) rfl rfl))
 (ss_cons (ss_expr (se_call c (d_need_likings h) (by decide) (sa_cons (se_call c (d_size_of h) (by decide) (sa_cons (sv 0) sa_nil) rfl (by decide) rfl rfl) (sa_cons (sv 1) sa_nil)) rfl (by decide) rfl rfl))
 (ss_one (ss_expr (se_call c (d_need_prices h) (by decide) (sa_cons (se_call c (d_size_of h) (by decide) (sa_cons (sv 0) sa_nil) rfl (by decide) rfl rfl) (sa_cons (sv 2) sa_nil)) rfl (by decide) rfl rfl)))))
abbrev N_net_of : List Str := ["start", "likings", "prices", "found", "best", "there", "net"]
def m_net_of : MSt :=
 (mSeq (mPar [3, 4] (mCons (mFn 2 f_rows_from (mCons (mVar 0) (mCons (mVar 2) mNil))) (mCons (mCst .non) mNil)))
 (mSeq (mForS (.one 5) (mIt (mCall gSortA (mCons (mVar 3) mNil)))
 (mSeq (mAsg 6 (mBin fSub (mFn 2 f_worth_of (mCons (mVar 5) (mCons (mVar 1) mNil))) (mBin fIx (mBin fIx (mVar 3) (mVar 5)) (mCst (.int 0)))))
 (mIfS (mTOr (mTb (mBin fIsN (mVar 4) (mCst .non))) (mTb (mBin fGt (mVar 6) (mBin fIx (mVar 4) (mCst (.int 0))))))
 (mAsg 4 (mTup (mCons (mVar 6) (mCons (mBin fIx (mBin fIx (mVar 3) (mVar 5)) (mCst (.int 2))) mNil))))
 mNext)))
 (mRetVar 4)))
def f_net_of : MF := mBody 7 m_net_of
theorem sc_net_of : FnScope N_net_of ["start", "likings", "prices"] (defScope (top 41)) := ⟨rfl, rfl, rfl, by decide +kernel, rfl, by decide +kernel, by decide +kernel⟩
theorem d_net_of {P : Program} {w : World} {K : PySem.W.Frag} {mg : Str → Option Value} {base : Heap} {T : List Addr × List Int} (h : Hd K mg base T.1) : Fn P w K mg base T "net_of" 5 3 (f_net_of) := by
  refine def_mk (h.d_net_of) sc_net_of rfl rfl (fun _ _ _ _ _ _ us hl => match us, hl with | [_, _, _], _ => rfl) ?_
  rintro G Y f c0 A outer s H E rfl rfl rfl rfl hgen c
  have B := h.nm
  exact (ss_cons (ss_par c.ft.calm c.nd rfl rfl (by decide) rfl rfl (sa_cons (se_call c (d_rows_from h) (by decide) (sa_cons (sv 0) (sa_cons (sv 2) sa_nil)) rfl (by decide) rfl rfl) (sa_cons se_non sa_nil)) rfl)
 (ss_cons (ss_for PassesOwn.never c.ft (si_it c (se_sorted0 c (sa_cons (sv 3) sa_nil) rfl B.sorted rfl)) (pg_name (i := 5) c.nd rfl (by first | exact Or.inl rfl | exact Or.inr rfl))
 (ss_cons (ss_set c.nd rfl (by first | exact Or.inl rfl | exact Or.inr rfl) (se_sub (se_call c (d_worth_of h) (by decide) (sa_cons (sv 5) (sa_cons (sv 1) sa_nil)) rfl (by decide) rfl rfl) (se_at c (se_at c (sv 3) (sv 5)) se_int)))
 (ss_one (ss_if (st_w (sw_or (st_cmp op_isN opr_isN (sv 4) se_non (nomark _)) (sw_or1 (st_cmp op_gt opr_intB (sv 6) (se_at c (sv 4) se_int) (nomark _)))))
 (ss_one (ss_set c.nd rfl (by first | exact Or.inl rfl | exact Or.inr rfl) (se_tup (sa_cons (sv 6) (sa_cons (se_at c (se_at c (sv 3) (sv 5)) se_int) sa_nil)))))
 ss_nil))) (fun _ => rfl))
 (ss_one (ss_retv (pv 4)))))
abbrev N_best_net : List Str := ["start", "likings", "prices"]
def m_best_net : MSt :=
 (mSeq (mDrop (mFn 3 f_need_net (mCons (mVar 0) (mCons (mVar 1) (mCons (mVar 2) mNil)))))
 (mRet (mFn 3 f_net_of (mCons (mVar 0) (mCons (mVar 1) (mCons (mVar 2) mNil))))))
def f_best_net : MF := mBody 3 m_best_net
theorem sc_best_net : FnScope N_best_net ["start", "likings", "prices"] (defScope (top 42)) := ⟨rfl, rfl, rfl, by decide +kernel, rfl, by decide +kernel, by decide +kernel⟩
theorem d_best_net {P : Program} {w : World} {K : PySem.W.Frag} {mg : Str → Option Value} {base : Heap} {T : List Addr × List Int} (h : Hd K mg base T.1) : Fn P w K mg base T "best_net" 8 3 (f_best_net) := by
  refine def_mk (h.d_best_net) sc_best_net rfl rfl (fun _ _ _ _ _ _ us hl => match us, hl with | [_, _, _], _ => rfl) ?_
  rintro G Y f c0 A outer s H E rfl rfl rfl rfl hgen c
  have B := h.nm
  exact (ss_cons (ss_expr (se_call c (d_need_net h) (by decide) (sa_cons (sv 0) (sa_cons (sv 1) (sa_cons (sv 2) sa_nil))) rfl (by decide) rfl rfl))
 (ss_one (ss_ret (se_call c (d_net_of h) (by decide) (sa_cons (sv 0) (sa_cons (sv 1) (sa_cons (sv 2) sa_nil))) rfl (by decide) rfl rfl))))
abbrev N_shows_best_net : List Str := ["start", "likings", "prices", "value", "best", "size"]
def m_shows_best_net : MSt :=
 (mSeq (mDrop (mFn 3 f_need_net (mCons (mVar 0) (mCons (mVar 1) (mCons (mVar 2) mNil)))))
 (mSeq (mPar [4, 5] (mCons (mBin fIx (mFn 3 f_net_of (mCons (mVar 0) (mCons (mVar 1) (mCons (mVar 2) mNil)))) (mCst (.int 0))) (mCons (mFn 1 f_size_of (mCons (mVar 0) mNil)) mNil)))
 (mSeq (mIfS (mTOr (mTNot (mTb (mIs isTupD (mVar 3)))) (mTOr (mTb (mBin fNe (mCall (f1 gLen) (mCons (mVar 3) mNil)) (mCst (.int 2)))) (mTNot (mTb (mFn 3 f_is_in (mCons (mBin fIx (mVar 3) (mCst (.int 0))) (mCons (mVar 4) (mCons (mVar 4) mNil))))))))
 (mRet (mCst (.bl false)))
 mNext)
 (mSeq (mIfS (mTNot (mTb (mFn 3 f_are_steps (mCons (mVar 5) (mCons (mBin fIx (mVar 3) (mCst (.int 1))) (mCons (mCst (.int 300)) mNil))))))
 (mRet (mCst (.bl false)))
 mNext)
 (mRet (mBin fEq (mBin fSub (mFn 2 f_worth_of (mCons (mBin fIx (mFn 2 f_trace (mCons (mVar 0) (mCons (mBin fIx (mVar 3) (mCst (.int 1))) mNil))) (mNeg (mCst (.int 1)))) (mCons (mVar 1) mNil))) (mFn 3 f_price_of (mCons (mVar 5) (mCons (mVar 2) (mCons (mBin fIx (mVar 3) (mCst (.int 1))) mNil))))) (mVar 4)))))))
def f_shows_best_net : MF := mBody 6 m_shows_best_net
theorem sc_shows_best_net : FnScope N_shows_best_net ["start", "likings", "prices", "value"] (defScope (top 43)) := ⟨rfl, rfl, rfl, by decide +kernel, rfl, by decide +kernel, by decide +kernel⟩
theorem d_shows_best_net {P : Program} {w : World} {K : PySem.W.Frag} {mg : Str → Option Value} {base : Heap} {T : List Addr × List Int} (h : Hd K mg base T.1) : Fn P w K mg base T "shows_best_net" 8 4 (f_shows_best_net) := by
  refine def_mk (h.d_shows_best_net) sc_shows_best_net rfl rfl (fun _ _ _ _ _ _ us hl => match us, hl with | [_, _, _, _], _ => rfl) ?_
  rintro G Y f c0 A outer s H E rfl rfl rfl rfl hgen c
  have B := h.nm
  obtain ⟨_, iMOST_CHEAP⟩ := h.int_MOST_CHEAP
  exact (ss_cons (ss_expr (se_call c (d_need_net h) (by decide) (sa_cons (sv 0) (sa_cons (sv 1) (sa_cons (sv 2) sa_nil))) rfl (by decide) rfl rfl))
 (ss_cons (ss_par c.ft.calm c.nd rfl rfl (by decide) rfl rfl (sa_cons (se_at c (se_call c (d_net_of h) (by decide) (sa_cons (sv 0) (sa_cons (sv 1) (sa_cons (sv 2) sa_nil))) rfl (by decide) rfl rfl) se_int) (sa_cons (se_call c (d_size_of h) (by decide) (sa_cons (sv 0) sa_nil) rfl (by decide) rfl rfl) sa_nil)) rfl)
 (ss_cons (ss_if (st_w (sw_or (st_not (st_val (se_isTup c (sv 3) B.isinstance rfl B.tuple rfl rfl rfl))) (sw_or (st_cmp (op_neD c.u64) opr_ne (se_len0 c (sa_cons (sv 3) sa_nil) rfl B.len rfl) se_int (nomark _)) (sw_or1 (st_not (st_val (se_call c (d_is_in h) (by decide) (sa_cons (se_at c (sv 3) se_int) (sa_cons (sv 4) (sa_cons (sv 4) sa_nil))) rfl (by decide) rfl rfl)))))))
 (ss_one (ss_ret se_bl))
 ss_nil)
 (ss_cons (ss_if (st_not (st_val (se_call c (d_are_steps h) (by decide) (sa_cons (sv 5) (sa_cons (se_at c (sv 3) se_int) (sa_cons (se_glob rfl iMOST_CHEAP) sa_nil))) rfl (by decide) rfl rfl)))
 (ss_one (ss_ret se_bl))
 ss_nil)
 (ss_one (ss_ret (se_cmp (op_eqD c.u64) opr_eq (se_sub (se_call c (d_worth_of h) (by decide) (sa_cons (se_at c (se_call c (d_trace h) (by decide) (sa_cons (sv 0) (sa_cons (se_at c (sv 3) se_int) sa_nil)) rfl (by decide) rfl rfl) (se_neg se_int)) (sa_cons (sv 1) sa_nil)) rfl (by decide) rfl rfl) (se_call c (d_price_of h) (by decide) (sa_cons (sv 5) (sa_cons (sv 2) (sa_cons (se_at c (sv 3) se_int) sa_nil))) rfl (by decide) rfl rfl)) (sv 4) (nomark _))))))))
abbrev N_tables : List Str := ["size", "likings", "prices", "many", "table", "some", "found", "turn", "here", "one", "totals", "step", "there"]
def m_tables : MSt :=
 (mSeq (mPar [4, 5] (mCons (mFn 2 f_price_table (mCons (mVar 0) (mCons (mVar 2) mNil))) (mCons (mFn 1 f_all_groupings (mCons (mVar 0) mNil)) mNil)))
 (mSeq (mAsg 6 (mLst (mCons (mDc (.one 9) [9] (mIt (mVar 5)) (mVar 9) (mCst (.int 0))) mNil)))
 (mSeq (mForS (.one 7) (mRng1 (mCons (mVar 3) mNil))
 (mSeq (mAsg 8 mDnilT)
 (mSeq (mFrz 5 (mForS (.one 9) (mIt (mVar 5))
 (mSeq (mAsg 10 (mLst mNil))
 (mSeq (mFrz 4 (mForS (.one 11) (mIt (mVar 4))
 (mSeq (mAsg 12 (mFn 2 f_stepped (mCons (mVar 9) (mCons (mVar 11) mNil))))
 (mApp 10 (mBin fAdd (mBin fSub (mFn 2 f_worth_of (mCons (mVar 12) (mCons (mVar 1) mNil))) (mBin fIx (mVar 4) (mVar 11))) (mBin fIx (mBin fIx (mVar 6) (mNeg (mCst (.int 1)))) (mVar 12)))))))
 (mPutT 8 (mVar 9) (mCall (f1 gMax) (mCons (mVar 10) mNil)))))))
 (mFrz 8 (mApp 6 (mVar 8))))))
 (mRetVar 6))))
def f_tables : MF := mBody 13 m_tables
theorem sc_tables : FnScope N_tables ["size", "likings", "prices", "many"] (defScope (top 44)) := ⟨rfl, rfl, rfl, by decide +kernel, rfl, by decide +kernel, by decide +kernel⟩
theorem d_tables {P : Program} {w : World} {K : PySem.W.Frag} {mg : Str → Option Value} {base : Heap} {T : List Addr × List Int} (h : Hd K mg base T.1) : Fn P w K mg base T "tables" 4 4 (f_tables) := by
  refine def_mk (h.d_tables) sc_tables rfl rfl (fun _ _ _ _ _ _ us hl => match us, hl with | [_, _, _, _], _ => rfl) ?_
  rintro G Y f c0 A outer s H E rfl rfl rfl rfl hgen c
  have B := h.nm
  exact (ss_cons (ss_par c.ft.calm c.nd rfl rfl (by decide) rfl rfl (sa_cons (se_call c (d_price_table h) (by decide) (sa_cons (sv 0) (sa_cons (sv 2) sa_nil)) rfl (by decide) rfl rfl) (sa_cons (se_call c (d_all_groupings h) (by decide) (sa_cons (sv 0) sa_nil) rfl (by decide) rfl rfl) sa_nil)) rfl)
 (ss_cons (ss_set c.nd rfl (by first | exact Or.inl rfl | exact Or.inr rfl) (se_lst (sa_cons (se_dc (own := [("one", 9)]) ⟨c.ft, c.u8, c.nd, (si_it c (sv 5)), (blkOk_by (own := [("one", 9)]) (N := N_tables) (sc := (defScope (top 44))) (by decide +kernel)), fun _ _ _ _ _ => (pg_name (i := 9) c.blk.nd rfl (by first | exact Or.inl rfl | exact Or.inr rfl)), fun _ _ _ _ _ => (sv 9), fun _ _ _ _ _ => se_int, fun _ => rfl, rfl⟩) sa_nil)))
 (ss_cons (ss_for PassesOwn.never c.ft (si_rng1 rfl B.range (sa_cons (sv 3) sa_nil)) (pg_name (i := 7) c.nd rfl (by first | exact Or.inl rfl | exact Or.inr rfl))
 (ss_cons (ss_set c.nd rfl (by first | exact Or.inl rfl | exact Or.inr rfl) se_dnilT)
 (ss_cons (ss_frz 5 (ss_for PassesOwn.never c.ft (si_it c (sv 5)) (pg_name (i := 9) c.nd rfl (by first | exact Or.inl rfl | exact Or.inr rfl))
 (ss_cons (ss_set c.nd rfl (by first | exact Or.inl rfl | exact Or.inr rfl) (se_lst sa_nil))
 (ss_cons (ss_frz 4 (ss_for PassesOwn.never c.ft (si_it c (sv 4)) (pg_name (i := 11) c.nd rfl (by first | exact Or.inl rfl | exact Or.inr rfl))
 (ss_cons (ss_set c.nd rfl (by first | exact Or.inl rfl | exact Or.inr rfl) (se_call c (d_stepped h) (by decide) (sa_cons (sv 9) (sa_cons (sv 11) sa_nil)) rfl (by decide) rfl rfl))
 (ss_one (ss_append 10 c (pv 10) (se_add c (se_sub (se_call c (d_worth_of h) (by decide) (sa_cons (sv 12) (sa_cons (sv 1) sa_nil)) rfl (by decide) rfl rfl) (se_at c (sv 4) (sv 11))) (se_at c (se_at c (sv 6) (se_neg se_int)) (sv 12))) rfl rfl rfl rfl rfl rfl))) (fun _ => rfl)))
 (ss_one (ss_stoT c (pv 8) (sv 9) (se_max0 c (sa_cons (sv 10) sa_nil) rfl B.max rfl))))) (fun _ => rfl)))
 (ss_one (ss_frz 8 (ss_append 6 c (pv 6) (sv 8) rfl rfl rfl rfl rfl rfl))))) (fun _ => rfl))
 (ss_one (ss_retv (pv 6))))))
abbrev N_need_stay : List Str := ["start", "likings", "prices", "many"]
def m_need_stay : MSt :=
 (mSeq (mDrop (mFn 3 f_need_net (mCons (mVar 0) (mCons (mVar 1) (mCons (mVar 2) mNil)))))
 (mIfS (mTNot (mTb (mFn 3 f_is_in (mCons (mVar 3) (mCons (mCst (.int 1)) (mCons (mCst (.int 8)) mNil))))))
 mNever
 mNext))
def f_need_stay : MF := mBody 4 m_need_stay
theorem sc_need_stay : FnScope N_need_stay ["start", "likings", "prices", "many"] (defScope (top 45)) := ⟨rfl, rfl, rfl, by decide +kernel, rfl, by decide +kernel, by decide +kernel⟩
theorem d_need_stay {P : Program} {w : World} {K : PySem.W.Frag} {mg : Str → Option Value} {base : Heap} {T : List Addr × List Int} (h : Hd K mg base T.1) : Fn P w K mg base T "need_stay" 8 4 (f_need_stay) := by
  refine def_mk (h.d_need_stay) sc_need_stay rfl rfl (fun _ _ _ _ _ _ us hl => match us, hl with | [_, _, _, _], _ => rfl) ?_
  rintro G Y f c0 A outer s H E rfl rfl rfl rfl hgen c
  have B := h.nm
  obtain ⟨_, iMOST_TURNS⟩ := h.int_MOST_TURNS
  exact (ss_cons (ss_expr (se_call c (d_need_net h) (by decide) (sa_cons (sv 0) (sa_cons (sv 1) (sa_cons (sv 2) sa_nil))) rfl (by decide) rfl rfl))
 (ss_one (ss_if (st_not (st_val (se_call c (d_is_in h) (by decide) (sa_cons (sv 3) (sa_cons se_int (sa_cons (se_glob rfl iMOST_TURNS) sa_nil))) rfl (by decide) rfl rfl)))
 (ss_one ss_never)
 ss_nil)))
abbrev N_best_stay : List Str := ["start", "likings", "prices", "many", "size", "some", "table", "row", "here", "left", "step", "there"]
def m_best_stay : MSt :=
 (mSeq (mDrop (mFn 4 f_need_stay (mCons (mVar 0) (mCons (mVar 1) (mCons (mVar 2) (mCons (mVar 3) mNil))))))
 (mSeq (mAsg 4 (mFn 1 f_size_of (mCons (mVar 0) mNil)))
 (mSeq (mPar [5, 6, 7, 8] (mCons (mFn 4 f_tables (mCons (mVar 4) (mCons (mVar 1) (mCons (mVar 2) (mCons (mVar 3) mNil))))) (mCons (mFn 2 f_price_table (mCons (mVar 4) (mCons (mVar 2) mNil))) (mCons (mLst mNil) (mCons (mVar 0) mNil)))))
 (mSeq (mForS (.one 9) (mRng3 (mCons (mVar 3) (mCons (mCst (.int 0)) (mCons (mNeg (mCst (.int 1))) mNil))))
 (mSeq (mForS (.one 10) (mIt (mFn 1 f_all_steps (mCons (mVar 4) mNil)))
 (mSeq (mAsg 11 (mFn 2 f_stepped (mCons (mVar 8) (mCons (mVar 10) mNil))))
 (mIfS (mTb (mBin fEq (mBin fAdd (mBin fSub (mFn 2 f_worth_of (mCons (mVar 11) (mCons (mVar 1) mNil))) (mBin fIx (mVar 6) (mVar 10))) (mBin fIx (mBin fIx (mVar 5) (mBin fSub (mVar 9) (mCst (.int 1)))) (mVar 11))) (mBin fIx (mBin fIx (mVar 5) (mVar 9)) (mVar 8))))
 mBrk
 mNext)))
 (mSeq (mApp 7 (mVar 10))
 (mAsg 8 (mVar 11)))))
 (mRet (mTup (mCons (mBin fIx (mBin fIx (mVar 5) (mVar 3)) (mVar 0)) (mCons (mCall (f1 gTuple) (mCons (mVar 7) mNil)) mNil))))))))
def f_best_stay : MF := mBody 12 m_best_stay
theorem sc_best_stay : FnScope N_best_stay ["start", "likings", "prices", "many"] (defScope (top 46)) := ⟨rfl, rfl, rfl, by decide +kernel, rfl, by decide +kernel, by decide +kernel⟩
theorem d_best_stay {P : Program} {w : World} {K : PySem.W.Frag} {mg : Str → Option Value} {base : Heap} {T : List Addr × List Int} (h : Hd K mg base T.1) : Fn P w K mg base T "best_stay" 9 4 (f_best_stay) := by
  refine def_mk (h.d_best_stay) sc_best_stay rfl rfl (fun _ _ _ _ _ _ us hl => match us, hl with | [_, _, _, _], _ => rfl) ?_
  rintro G Y f c0 A outer s H E rfl rfl rfl rfl hgen c
  have B := h.nm
  exact (ss_cons (ss_expr (se_call c (d_need_stay h) (by decide) (sa_cons (sv 0) (sa_cons (sv 1) (sa_cons (sv 2) (sa_cons (sv 3) sa_nil)))) rfl (by decide) rfl rfl))
 (ss_cons (ss_set c.nd rfl (by first | exact Or.inl rfl | exact Or.inr rfl) (se_call c (d_size_of h) (by decide) (sa_cons (sv 0) sa_nil) rfl (by decide) rfl rfl))
 (ss_cons (ss_tupd c.ft.calm (sa_cons (se_call c (d_tables h) (by decide) (sa_cons (sv 4) (sa_cons (sv 1) (sa_cons (sv 2) (sa_cons (sv 3) sa_nil)))) rfl (by decide) rfl rfl) (sa_cons (se_call c (d_price_table h) (by decide) (sa_cons (sv 4) (sa_cons (sv 2) sa_nil)) rfl (by decide) rfl rfl) (sa_cons (se_lst sa_nil) (sa_cons (sv 0) sa_nil)))) (pgs_cons (pg_name (i := 5) c.nd rfl (by first | exact Or.inl rfl | exact Or.inr rfl)) (pgs_cons (pg_name (i := 6) c.nd rfl (by first | exact Or.inl rfl | exact Or.inr rfl)) (pgs_cons (pg_name (i := 7) c.nd rfl (by first | exact Or.inl rfl | exact Or.inr rfl)) (pgs_cons (pg_name (i := 8) c.nd rfl (by first | exact Or.inl rfl | exact Or.inr rfl)) pgs_nil)))))
 (ss_cons (ss_for PassesOwn.never c.ft (si_rng3 rfl B.range (sa_cons (sv 3) (sa_cons se_int (sa_cons (se_neg se_int) sa_nil)))) (pg_name (i := 9) c.nd rfl (by first | exact Or.inl rfl | exact Or.inr rfl))
 (ss_cons (ss_for PassesOwn.never c.ft (si_it c (se_call c (d_all_steps h) (by decide) (sa_cons (sv 4) sa_nil) rfl (by decide) rfl rfl)) (pg_name (i := 10) c.nd rfl (by first | exact Or.inl rfl | exact Or.inr rfl))
 (ss_cons (ss_set c.nd rfl (by first | exact Or.inl rfl | exact Or.inr rfl) (se_call c (d_stepped h) (by decide) (sa_cons (sv 8) (sa_cons (sv 10) sa_nil)) rfl (by decide) rfl rfl))
 (ss_one (ss_if (st_cmp (op_eqD c.u64) opr_eq (se_add c (se_sub (se_call c (d_worth_of h) (by decide) (sa_cons (sv 11) (sa_cons (sv 1) sa_nil)) rfl (by decide) rfl rfl) (se_at c (sv 6) (sv 10))) (se_at c (se_at c (sv 5) (se_sub (sv 9) se_int)) (sv 11))) (se_at c (se_at c (sv 5) (sv 9)) (sv 8)) (nomark _))
 (ss_one ss_break)
 ss_nil))) (fun _ => rfl))
 (ss_cons (ss_append 7 c (pv 7) (sv 10) rfl rfl rfl rfl rfl rfl)
 (ss_one (ss_set c.nd rfl (by first | exact Or.inl rfl | exact Or.inr rfl) (sv 11))))) (fun _ => rfl))
 (ss_one (ss_ret (se_tup (sa_cons (se_at c (se_at c (sv 5) (sv 3)) (sv 0)) (sa_cons (se_tuple0 c (sa_cons (sv 7) sa_nil) rfl B.tuple rfl) sa_nil)))))))))
abbrev N_shows_best_stay : List Str := ["start", "likings", "prices", "many", "value", "size", "best", "gains", "one"]
def m_shows_best_stay : MSt :=
 (mSeq (mDrop (mFn 4 f_need_stay (mCons (mVar 0) (mCons (mVar 1) (mCons (mVar 2) (mCons (mVar 3) mNil))))))
 (mSeq (mAsg 5 (mFn 1 f_size_of (mCons (mVar 0) mNil)))
 (mSeq (mAsg 6 (mBin fIx (mBin fIx (mFn 4 f_tables (mCons (mVar 5) (mCons (mVar 1) (mCons (mVar 2) (mCons (mVar 3) mNil))))) (mVar 3)) (mVar 0)))
 (mSeq (mIfS (mTOr (mTNot (mTb (mIs isTupD (mVar 4)))) (mTOr (mTb (mBin fNe (mCall (f1 gLen) (mCons (mVar 4) mNil)) (mCst (.int 2)))) (mTNot (mTb (mFn 3 f_is_in (mCons (mBin fIx (mVar 4) (mCst (.int 0))) (mCons (mVar 6) (mCons (mVar 6) mNil))))))))
 (mRet (mCst (.bl false)))
 mNext)
 (mSeq (mIfS (mTOr (mTNot (mTb (mFn 2 f_is_row (mCons (mVar 5) (mCons (mBin fIx (mVar 4) (mCst (.int 1))) mNil))))) (mTb (mBin fNe (mCall (f1 gLen) (mCons (mBin fIx (mVar 4) (mCst (.int 1))) mNil)) (mVar 3))))
 (mRet (mCst (.bl false)))
 mNext)
 (mSeq (mAsg 7 (mLc (.one 8) [8] (mIt (mSl fSlL (mFn 2 f_trace (mCons (mVar 0) (mCons (mBin fIx (mVar 4) (mCst (.int 1))) mNil))) (mOSome (mCst (.int 1))) mONone)) mYes (mFn 2 f_worth_of (mCons (mVar 8) (mCons (mVar 1) mNil)))))
 (mRet (mBin fEq (mBin fSub (mCall (f1 gSum) (mCons (mVar 7) mNil)) (mFn 3 f_price_of (mCons (mVar 5) (mCons (mVar 2) (mCons (mBin fIx (mVar 4) (mCst (.int 1))) mNil))))) (mVar 6)))))))))
def f_shows_best_stay : MF := mBody 9 m_shows_best_stay
theorem sc_shows_best_stay : FnScope N_shows_best_stay ["start", "likings", "prices", "many", "value"] (defScope (top 47)) := ⟨rfl, rfl, rfl, by decide +kernel, rfl, by decide +kernel, by decide +kernel⟩
theorem d_shows_best_stay {P : Program} {w : World} {K : PySem.W.Frag} {mg : Str → Option Value} {base : Heap} {T : List Addr × List Int} (h : Hd K mg base T.1) : Fn P w K mg base T "shows_best_stay" 9 5 (f_shows_best_stay) := by
  refine def_mk (h.d_shows_best_stay) sc_shows_best_stay rfl rfl (fun _ _ _ _ _ _ us hl => match us, hl with | [_, _, _, _, _], _ => rfl) ?_
  rintro G Y f c0 A outer s H E rfl rfl rfl rfl hgen c
  have B := h.nm
  exact (ss_cons (ss_expr (se_call c (d_need_stay h) (by decide) (sa_cons (sv 0) (sa_cons (sv 1) (sa_cons (sv 2) (sa_cons (sv 3) sa_nil)))) rfl (by decide) rfl rfl))
 (ss_cons (ss_set c.nd rfl (by first | exact Or.inl rfl | exact Or.inr rfl) (se_call c (d_size_of h) (by decide) (sa_cons (sv 0) sa_nil) rfl (by decide) rfl rfl))
 (ss_cons (ss_set c.nd rfl (by first | exact Or.inl rfl | exact Or.inr rfl) (se_at c (se_at c (se_call c (d_tables h) (by decide) (sa_cons (sv 5) (sa_cons (sv 1) (sa_cons (sv 2) (sa_cons (sv 3) sa_nil)))) rfl (by decide) rfl rfl) (sv 3)) (sv 0)))
 (ss_cons (ss_if (st_w (sw_or (st_not (st_val (se_isTup c (sv 4) B.isinstance rfl B.tuple rfl rfl rfl))) (sw_or (st_cmp (op_neD c.u64) opr_ne (se_len0 c (sa_cons (sv 4) sa_nil) rfl B.len rfl) se_int (nomark _)) (sw_or1 (st_not (st_val (se_call c (d_is_in h) (by decide) (sa_cons (se_at c (sv 4) se_int) (sa_cons (sv 6) (sa_cons (sv 6) sa_nil))) rfl (by decide) rfl rfl)))))))
 (ss_one (ss_ret se_bl))
 ss_nil)
 (ss_cons (ss_if (st_w (sw_or (st_not (st_val (se_call c (d_is_row h) (by decide) (sa_cons (sv 5) (sa_cons (se_at c (sv 4) se_int) sa_nil)) rfl (by decide) rfl rfl))) (sw_or1 (st_cmp (op_neD c.u64) opr_ne (se_len0 c (sa_cons (se_at c (sv 4) se_int) sa_nil) rfl B.len rfl) (sv 3) (nomark _)))))
 (ss_one (ss_ret se_bl))
 ss_nil)
 (ss_cons (ss_lc (own := [("one", 8)]) ⟨c.ft, c.nd, (si_it c (se_slL c.ft (se_call c (d_trace h) (by decide) (sa_cons (sv 0) (sa_cons (se_at c (sv 4) se_int) sa_nil)) rfl (by decide) rfl rfl) (so_some se_int) so_none)), (blkOk_by (own := [("one", 8)]) (N := N_shows_best_stay) (sc := (defScope (top 47))) (by decide +kernel)), fun _ _ _ _ _ => (pg_name (i := 8) c.blk.nd rfl (by first | exact Or.inl rfl | exact Or.inr rfl)), fun _ _ _ _ _ => sts_nil, fun _ _ _ _ _ => (se_call c.blk (d_worth_of h) (by decide) (sa_cons (sv 8) (sa_cons (sv 1) sa_nil)) rfl (by decide) rfl rfl), fun _ => rfl, rfl⟩ (hy := rfl) (hyl := rfl) (hsw := rfl))
 (ss_one (ss_ret (se_cmp (op_eqD c.u64) opr_eq (se_sub (se_sum0 c (sa_cons (sv 7) sa_nil) rfl B.sum rfl) (se_call c (d_price_of h) (by decide) (sa_cons (sv 5) (sa_cons (sv 2) (sa_cons (se_at c (sv 4) se_int) sa_nil))) rfl (by decide) rfl rfl)) (sv 6) (nomark _))))))))))
abbrev N_stay_worths : List Str := ["likings", "prices", "many", "sizes", "size", "some", "one"]
def m_stay_worths : MSt :=
 (mSeq (mAsg 3 (mLc (.one 4) [4] (mRng2 (mCons (mCst (.int 1)) (mCons (mBin fAdd (mCst (.int 6)) (mCst (.int 1))) mNil))) (mTb (mFn 2 f_are_likings (mCons (mVar 4) (mCons (mVar 0) mNil)))) (mVar 4)))
 (mSeq (mIfS (mTNot (mTr (mVar 3)))
 mNever
 mNext)
 (mSeq (mDrop (mFn 2 f_need_prices (mCons (mBin fIx (mVar 3) (mCst (.int 0))) (mCons (mVar 1) mNil))))
 (mSeq (mIfS (mTNot (mTb (mFn 3 f_is_in (mCons (mVar 2) (mCons (mCst (.int 1)) (mCons (mCst (.int 8)) mNil))))))
 mNever
 mNext)
 (mRet (mCall (f1 gTuple) (mCons (mLc (.one 5) [5] (mIt (mFn 4 f_tables (mCons (mBin fIx (mVar 3) (mCst (.int 0))) (mCons (mVar 0) (mCons (mVar 1) (mCons (mVar 2) mNil)))))) mYes (mCall (f1 gTuple) (mCons (mLc (.one 6) [6] (mIt (mCall gSortA (mCons (mVar 5) mNil))) mYes (mBin fIx (mVar 5) (mVar 6))) mNil))) mNil)))))))
def f_stay_worths : MF := mBody 7 m_stay_worths
theorem sc_stay_worths : FnScope N_stay_worths ["likings", "prices", "many"] (defScope (top 48)) := ⟨rfl, rfl, rfl, by decide +kernel, rfl, by decide +kernel, by decide +kernel⟩
theorem d_stay_worths {P : Program} {w : World} {K : PySem.W.Frag} {mg : Str → Option Value} {base : Heap} {T : List Addr × List Int} (h : Hd K mg base T.1) : Fn P w K mg base T "stay_worths" 5 3 (f_stay_worths) := by
  refine def_mk (h.d_stay_worths) sc_stay_worths rfl rfl (fun _ _ _ _ _ _ us hl => match us, hl with | [_, _, _], _ => rfl) ?_
  rintro G Y f c0 A outer s H E rfl rfl rfl rfl hgen c
  have B := h.nm
  obtain ⟨_, iMOST_PEOPLE⟩ := h.int_MOST_PEOPLE
  obtain ⟨_, iMOST_TURNS⟩ := h.int_MOST_TURNS
  exact (ss_cons (ss_lc (own := [("size", 4)]) ⟨c.ft, c.nd, (si_rng2 rfl B.range (sa_cons se_int (sa_cons (se_add c (se_glob rfl iMOST_PEOPLE) se_int) sa_nil))), (blkOk_by (own := [("size", 4)]) (N := N_stay_worths) (sc := (defScope (top 48))) (by decide +kernel)), fun _ _ _ _ _ => (pg_name (i := 4) c.blk.nd rfl (by first | exact Or.inl rfl | exact Or.inr rfl)), fun _ _ _ _ _ => (sts_one (st_val (se_call c.blk (d_are_likings h) (by decide) (sa_cons (sv 4) (sa_cons (sv 0) sa_nil)) rfl (by decide) rfl rfl))), fun _ _ _ _ _ => (sv 4), fun _ => rfl, rfl⟩ (hy := rfl) (hyl := rfl) (hsw := rfl))
 (ss_cons (ss_if (st_not (st_tru c.ft (sv 3)))
 (ss_one ss_never)
 ss_nil)
 (ss_cons (ss_expr (se_call c (d_need_prices h) (by decide) (sa_cons (se_at c (sv 3) se_int) (sa_cons (sv 1) sa_nil)) rfl (by decide) rfl rfl))
 (ss_cons (ss_if (st_not (st_val (se_call c (d_is_in h) (by decide) (sa_cons (sv 2) (sa_cons se_int (sa_cons (se_glob rfl iMOST_TURNS) sa_nil))) rfl (by decide) rfl rfl)))
 (ss_one ss_never)
 ss_nil)
 (ss_one (ss_ret (se_tuple0 c (sa_cons (se_lc (own := [("some", 5)]) ⟨c.ft, c.nd, (si_it c (se_call c (d_tables h) (by decide) (sa_cons (se_at c (sv 3) se_int) (sa_cons (sv 0) (sa_cons (sv 1) (sa_cons (sv 2) sa_nil)))) rfl (by decide) rfl rfl)), (blkOk_by (own := [("some", 5)]) (N := N_stay_worths) (sc := (defScope (top 48))) (by decide +kernel)), fun _ _ _ _ _ => (pg_name (i := 5) c.blk.nd rfl (by first | exact Or.inl rfl | exact Or.inr rfl)), fun _ _ _ _ _ => sts_nil, fun _ _ _ _ _ => (se_tuple0 c.blk (sa_cons (se_lc (own := [("one", 6)]) ⟨c.blk.ft, c.blk.nd, (si_it c.blk (se_sorted0 c.blk (sa_cons (sv 5) sa_nil) rfl B.sorted rfl)), (blkOk_by (own := [("one", 6)]) (by rfl)), fun _ _ _ _ _ => (pg_name (i := 6) c.blk.blk.nd rfl (by first | exact Or.inl rfl | exact Or.inr rfl)), fun _ _ _ _ _ => sts_nil, fun _ _ _ _ _ => (se_at c.blk.blk (sv 5) (sv 6)), fun _ => rfl, rfl⟩) sa_nil) rfl B.tuple rfl), fun _ => rfl, rfl⟩) sa_nil) rfl B.tuple rfl)))))))
end GD
/-! Jd -/
set_option maxHeartbeats 4000000
namespace GD
open PySem L2
abbrev N__law_alike : List Str := ["_law_found", "_law_due", "_law_k"]
def m__law_alike : MSt :=
 (mSeq (mIfS (mTb (mIs isTLD (mVar 1))) mNever mNext)
 (mSeq (mIfS (mTOr (mTb (mBin fIsN (mVar 1) (mCst .non))) (mTb (mIs isStrD (mVar 1))))
 (mRet (mAnd (mBin fEq (mVar 0) (mVar 1)) (mBin fEq (mIs isStrD (mVar 0)) (mIs isStrD (mVar 1)))))
 mNext)
 (mRet (mAnd (mIs isIntD (mVar 0)) (mAnd (mBin fEq (mIs isBoolD (mVar 0)) (mIs isBoolD (mVar 1))) (mBin fEq (mVar 0) (mVar 1)))))))
def f__law_alike : MF := mBody 3 m__law_alike
theorem sc__law_alike : FnScope N__law_alike ["_law_found", "_law_due"] (defScope (top 52)) := ⟨rfl, rfl, rfl, by decide +kernel, rfl, by decide +kernel, by decide +kernel⟩
theorem d__law_alike {P : Program} {w : World} {K : PySem.W.Frag} {mg : Str → Option Value} {base : Heap} {T : List Addr × List Int} (h : Hd K mg base T.1) : Fn P w K mg base T "_law_alike" 1 2 (f__law_alike) := by
  refine def_mk (h.d__law_alike) sc__law_alike rfl rfl (fun _ _ _ _ _ _ us hl => match us, hl with | [_, _], _ => rfl) ?_
  rintro G Y f c0 A outer s H E rfl rfl rfl rfl hgen c
  have B := h.nm
  exact (ss_cons (ss_if (st_val (se_isTL c (sv 1) B.isinstance rfl B.tuple rfl B.list rfl rfl rfl)) sss_never ss_nil)
 (ss_cons (ss_if (st_w (sw_or (st_cmp op_isN opr_isN (sv 1) se_non (nomark _)) (sw_or1 (st_val (se_isStr c (sv 1) B.isinstance rfl B.str rfl rfl rfl)))))
 (ss_one (ss_ret (se_and (se_cmp (op_eqD c.u64) opr_eq (sv 0) (sv 1) (nomark _)) (se_one (se_cmp (op_eqD c.u64) opr_eq (se_isStr c (sv 0) B.isinstance rfl B.str rfl rfl rfl) (se_isStr c (sv 1) B.isinstance rfl B.str rfl rfl rfl) (nomark _))))))
 ss_nil)
 (ss_one (ss_ret (se_and (se_isInt c (sv 0) B.isinstance rfl B.int rfl rfl rfl) (se_and (se_cmp (op_eqD c.u64) opr_eq (se_isBool c (sv 0) B.isinstance rfl B.bool rfl rfl rfl) (se_isBool c (sv 1) B.isinstance rfl B.bool rfl rfl rfl) (nomark _)) (se_one (se_cmp (op_eqD c.u64) opr_eq (sv 0) (sv 1) (nomark _)))))))))
abbrev N__law_lots : List Str := ["_law_labels_here", "_law_found", "_law_label", "_law_k"]
def m__law_lots : MSt :=
 (mSeq (mAsg 1 (mLst mNil))
 (mSeq (mForS (.one 2) (mIt (mSetSorted (mVar 0)))
 (mApp 1 (mCall (f1 gTuple) (mCons (mLc (.one 3) [3] (mRng1 (mCons (mCall (f1 gLen) (mCons (mVar 0) mNil)) mNil)) (mTb (mBin fEq (mBin fIx (mVar 0) (mVar 3)) (mVar 2))) (mVar 3)) mNil))))
 (mRet (mCall (f1 gTuple) (mCons (mCall gSortA (mCons (mVar 1) mNil)) mNil)))))
def f__law_lots : MF := mBody 4 m__law_lots
theorem sc__law_lots : FnScope N__law_lots ["_law_labels_here"] (defScope (top 53)) := ⟨rfl, rfl, rfl, by decide +kernel, rfl, by decide +kernel, by decide +kernel⟩
theorem d__law_lots {P : Program} {w : World} {K : PySem.W.Frag} {mg : Str → Option Value} {base : Heap} {T : List Addr × List Int} (h : Hd K mg base T.1) : Fn P w K mg base T "_law_lots" 1 1 (f__law_lots) := by
  refine def_mk (h.d__law_lots) sc__law_lots rfl rfl (fun _ _ _ _ _ _ us hl => match us, hl with | [_], _ => rfl) ?_
  rintro G Y f c0 A outer s H E rfl rfl rfl rfl hgen c
  have B := h.nm
  exact (ss_cons (ss_set c.nd rfl (by first | exact Or.inl rfl | exact Or.inr rfl) (se_lst sa_nil))
 (ss_cons (ss_for PassesOwn.never c.ft (si_it c (se_setSorted c.ft (sv 0) rfl B.sorted rfl B.set)) (pg_name (i := 2) c.nd rfl (by first | exact Or.inl rfl | exact Or.inr rfl))
 (ss_one (ss_append 1 c (pv 1) (se_tuple0 c (sa_cons (se_lc (own := [("_law_k", 3)]) ⟨c.ft, c.nd, (si_rng1 rfl B.range (sa_cons (se_len0 c (sa_cons (sv 0) sa_nil) rfl B.len rfl) sa_nil)), (blkOk_by (own := [("_law_k", 3)]) (N := N__law_lots) (sc := (defScope (top 53))) (by decide +kernel)), fun _ _ _ _ _ => (pg_name (i := 3) c.blk.nd rfl (by first | exact Or.inl rfl | exact Or.inr rfl)), fun _ _ _ _ _ => (sts_one (st_cmp (op_eqD c.blk.u64) opr_eq (se_at c.blk (sv 0) (sv 3)) (sv 2) (nomark _))), fun _ _ _ _ _ => (sv 3), fun _ => rfl, rfl⟩) sa_nil) rfl B.tuple rfl) rfl rfl rfl rfl rfl rfl)) (fun _ => rfl))
 (ss_one (ss_ret (se_tuple0 c (sa_cons (se_sorted0 c (sa_cons (sv 1) sa_nil) rfl B.sorted rfl) sa_nil) rfl B.tuple rfl)))))
abbrev N__law_labels : List Str := ["_law_grouping_here", "_law_found", "_law_k", "_law_person"]
def m__law_labels : MSt :=
 (mSeq (mAsg 1 mDnilI)
 (mSeq (mForS (.one 2) (mRng1 (mCons (mCall (f1 gLen) (mCons (mVar 0) mNil)) mNil))
 (mForS (.one 3) (mIt (mBin fIx (mVar 0) (mVar 2)))
 (mPutI 1 (mVar 3) (mVar 2))))
 (mRet (mLc (.one 3) [3] (mIt (mCall gSortA (mCons (mCall gListA (mCons (mVar 1) mNil)) mNil))) mYes (mBin fIx (mVar 1) (mVar 3))))))
def f__law_labels : MF := mBody 4 m__law_labels
theorem sc__law_labels : FnScope N__law_labels ["_law_grouping_here"] (defScope (top 54)) := ⟨rfl, rfl, rfl, by decide +kernel, rfl, by decide +kernel, by decide +kernel⟩
theorem d__law_labels {P : Program} {w : World} {K : PySem.W.Frag} {mg : Str → Option Value} {base : Heap} {T : List Addr × List Int} (h : Hd K mg base T.1) : Fn P w K mg base T "_law_labels" 1 1 (f__law_labels) := by
  refine def_mk (h.d__law_labels) sc__law_labels rfl rfl (fun _ _ _ _ _ _ us hl => match us, hl with | [_], _ => rfl) ?_
  rintro G Y f c0 A outer s H E rfl rfl rfl rfl hgen c
  have B := h.nm
  exact (ss_cons (ss_set c.nd rfl (by first | exact Or.inl rfl | exact Or.inr rfl) se_dnilI)
 (ss_cons (ss_for PassesOwn.never c.ft (si_rng1 rfl B.range (sa_cons (se_len0 c (sa_cons (sv 0) sa_nil) rfl B.len rfl) sa_nil)) (pg_name (i := 2) c.nd rfl (by first | exact Or.inl rfl | exact Or.inr rfl))
 (ss_one (ss_for PassesOwn.never c.ft (si_it c (se_at c (sv 0) (sv 2))) (pg_name (i := 3) c.nd rfl (by first | exact Or.inl rfl | exact Or.inr rfl))
 (ss_one (ss_stoD c (pv 1) (sv 3) (sv 2))) (fun _ => rfl))) (fun _ => rfl))
 (ss_one (ss_ret (se_lc (own := [("_law_person", 3)]) ⟨c.ft, c.nd, (si_it c (se_sorted0 c (sa_cons (se_list0 c (sa_cons (sv 1) sa_nil) rfl B.list rfl) sa_nil) rfl B.sorted rfl)), (blkOk_by (own := [("_law_person", 3)]) (N := N__law_labels) (sc := (defScope (top 54))) (by decide +kernel)), fun _ _ _ _ _ => (pg_name (i := 3) c.blk.nd rfl (by first | exact Or.inl rfl | exact Or.inr rfl)), fun _ _ _ _ _ => sts_nil, fun _ _ _ _ _ => (se_at c.blk (sv 1) (sv 3)), fun _ => rfl, rfl⟩)))))
abbrev N__law_step : List Str := ["_law_grouping_here", "_law_step_here", "_law_labels_here", "_law_old", "_law_label"]
def m__law_step : MSt :=
 (mSeq (mAsg 2 (mFn 1 f__law_labels (mCons (mVar 0) mNil)))
 (mSeq (mIfS (mTb (mBin fEq (mCall (f1 gLen) (mCons (mVar 1) mNil)) (mCst (.int 1))))
 (mSetI 2 (mBin fIx (mVar 1) (mCst (.int 0))) (mBin fAdd (mCall (f1 gLen) (mCons (mVar 2) mNil)) (mCst (.int 9))))
 (mSeq (mAsg 3 (mBin fIx (mVar 2) (mBin fIx (mVar 1) (mCst (.int 1)))))
 (mAsg 2 (mLc (.one 4) [4] (mIt (mVar 2)) mYes (mIf (mTb (mBin fEq (mVar 4) (mVar 3))) (mBin fIx (mVar 2) (mBin fIx (mVar 1) (mCst (.int 0)))) (mVar 4))))))
 (mFrz 2 (mRet (mFn 1 f__law_lots (mCons (mVar 2) mNil))))))
def f__law_step : MF := mBody 5 m__law_step
theorem sc__law_step : FnScope N__law_step ["_law_grouping_here", "_law_step_here"] (defScope (top 56)) := ⟨rfl, rfl, rfl, by decide +kernel, rfl, by decide +kernel, by decide +kernel⟩
theorem d__law_step {P : Program} {w : World} {K : PySem.W.Frag} {mg : Str → Option Value} {base : Heap} {T : List Addr × List Int} (h : Hd K mg base T.1) : Fn P w K mg base T "_law_step" 2 2 (f__law_step) := by
  refine def_mk (h.d__law_step) sc__law_step rfl rfl (fun _ _ _ _ _ _ us hl => match us, hl with | [_, _], _ => rfl) ?_
  rintro G Y f c0 A outer s H E rfl rfl rfl rfl hgen c
  have B := h.nm
  exact (ss_cons (ss_set c.nd rfl (by first | exact Or.inl rfl | exact Or.inr rfl) (se_call c (d__law_labels h) (by decide) (sa_cons (sv 0) sa_nil) rfl (by decide) rfl rfl))
 (ss_cons (ss_if (st_cmp (op_eqD c.u64) opr_eq (se_len0 c (sa_cons (sv 1) sa_nil) rfl B.len rfl) se_int (nomark _))
 (ss_one (ss_stoI c (pv 2) (se_at c (sv 1) se_int) (se_add c (se_len0 c (sa_cons (sv 2) sa_nil) rfl B.len rfl) se_int)))
 (ss_cons (ss_set c.nd rfl (by first | exact Or.inl rfl | exact Or.inr rfl) (se_at c (sv 2) (se_at c (sv 1) se_int)))
 (ss_one (ss_set c.nd rfl (by first | exact Or.inl rfl | exact Or.inr rfl) (se_lc (own := [("_law_label", 4)]) ⟨c.ft, c.nd, (si_it c (sv 2)), (blkOk_by (own := [("_law_label", 4)]) (N := N__law_step) (sc := (defScope (top 56))) (by decide +kernel)), fun _ _ _ _ _ => (pg_name (i := 4) c.blk.nd rfl (by first | exact Or.inl rfl | exact Or.inr rfl)), fun _ _ _ _ _ => sts_nil, fun _ _ _ _ _ => (se_if (st_cmp (op_eqD c.blk.u64) opr_eq (sv 4) (sv 3) (nomark _)) (se_at c.blk (sv 2) (se_at c.blk (sv 1) se_int)) (sv 4)), fun _ => rfl, rfl⟩)))))
 (ss_one (ss_frz 2 (ss_ret (se_call c (d__law_lots h) (by decide) (sa_cons (sv 2) sa_nil) rfl (by decide) rfl rfl))))))
abbrev N__law_done : List Str := ["_law_grouping_here", "_law_steps_here", "_law_step_here"]
def m__law_done : MSt :=
 (mSeq (mForS (.one 2) (mIt (mVar 1))
 (mAsg 0 (mFn 2 f__law_step (mCons (mVar 0) (mCons (mVar 2) mNil)))))
 (mRetVar 0))
def f__law_done : MF := mBody 3 m__law_done
theorem sc__law_done : FnScope N__law_done ["_law_grouping_here", "_law_steps_here"] (defScope (top 57)) := ⟨rfl, rfl, rfl, by decide +kernel, rfl, by decide +kernel, by decide +kernel⟩
theorem d__law_done {P : Program} {w : World} {K : PySem.W.Frag} {mg : Str → Option Value} {base : Heap} {T : List Addr × List Int} (h : Hd K mg base T.1) : Fn P w K mg base T "_law_done" 3 2 (f__law_done) := by
  refine def_mk (h.d__law_done) sc__law_done rfl rfl (fun _ _ _ _ _ _ us hl => match us, hl with | [_, _], _ => rfl) ?_
  rintro G Y f c0 A outer s H E rfl rfl rfl rfl hgen c
  have B := h.nm
  exact (ss_cons (ss_for PassesOwn.never c.ft (si_it c (sv 1)) (pg_name (i := 2) c.nd rfl (by first | exact Or.inl rfl | exact Or.inr rfl))
 (ss_one (ss_set c.nd rfl (by first | exact Or.inl rfl | exact Or.inr rfl) (se_call c (d__law_step h) (by decide) (sa_cons (sv 0) (sa_cons (sv 2) sa_nil)) rfl (by decide) rfl rfl))) (fun _ => rfl))
 (ss_one (ss_retv (pv 0))))
abbrev N__law_steps : List Str := ["_law_size", "_law_found", "_law_one", "_law_other"]
def m__law_steps : MSt :=
 (mSeq (mAsg 1 (mLc (.one 2) [2] (mRng1 (mCons (mVar 0) mNil)) mYes (mTup (mCons (mVar 2) mNil))))
 (mSeq (mForS (.one 2) (mRng1 (mCons (mVar 0) mNil))
 (mAsg 1 (mBin fAdd (mVar 1) (mLc (.one 3) [3] (mRng2 (mCons (mBin fAdd (mVar 2) (mCst (.int 1))) (mCons (mVar 0) mNil))) mYes (mTup (mCons (mVar 2) (mCons (mVar 3) mNil)))))))
 (mRet (mCall gSortA (mCons (mVar 1) mNil)))))
def f__law_steps : MF := mBody 4 m__law_steps
theorem sc__law_steps : FnScope N__law_steps ["_law_size"] (defScope (top 58)) := ⟨rfl, rfl, rfl, by decide +kernel, rfl, by decide +kernel, by decide +kernel⟩
theorem d__law_steps {P : Program} {w : World} {K : PySem.W.Frag} {mg : Str → Option Value} {base : Heap} {T : List Addr × List Int} (h : Hd K mg base T.1) : Fn P w K mg base T "_law_steps" 1 1 (f__law_steps) := by
  refine def_mk (h.d__law_steps) sc__law_steps rfl rfl (fun _ _ _ _ _ _ us hl => match us, hl with | [_], _ => rfl) ?_
  rintro G Y f c0 A outer s H E rfl rfl rfl rfl hgen c
  have B := h.nm
  exact (ss_cons (ss_lc (own := [("_law_one", 2)]) ⟨c.ft, c.nd, (si_rng1 rfl B.range (sa_cons (sv 0) sa_nil)), (blkOk_by (own := [("_law_one", 2)]) (N := N__law_steps) (sc := (defScope (top 58))) (by decide +kernel)), fun _ _ _ _ _ => (pg_name (i := 2) c.blk.nd rfl (by first | exact Or.inl rfl | exact Or.inr rfl)), fun _ _ _ _ _ => sts_nil, fun _ _ _ _ _ => (se_tup (sa_cons (sv 2) sa_nil)), fun _ => rfl, rfl⟩ (hy := rfl) (hyl := rfl) (hsw := rfl))
 (ss_cons (ss_for PassesOwn.never c.ft (si_rng1 rfl B.range (sa_cons (sv 0) sa_nil)) (pg_name (i := 2) c.nd rfl (by first | exact Or.inl rfl | exact Or.inr rfl))
 (ss_one (ss_set c.nd rfl (by first | exact Or.inl rfl | exact Or.inr rfl) (se_add c (sv 1) (se_lc (own := [("_law_other", 3)]) ⟨c.ft, c.nd, (si_rng2 rfl B.range (sa_cons (se_add c (sv 2) se_int) (sa_cons (sv 0) sa_nil))), (blkOk_by (own := [("_law_other", 3)]) (N := N__law_steps) (sc := (defScope (top 58))) (by decide +kernel)), fun _ _ _ _ _ => (pg_name (i := 3) c.blk.nd rfl (by first | exact Or.inl rfl | exact Or.inr rfl)), fun _ _ _ _ _ => sts_nil, fun _ _ _ _ _ => (se_tup (sa_cons (sv 2) (sa_cons (sv 3) sa_nil))), fun _ => rfl, rfl⟩)))) (fun _ => rfl))
 (ss_one (ss_ret (se_sorted0 c (sa_cons (sv 1) sa_nil) rfl B.sorted rfl)))))
abbrev N__law_groupings : List Str := ["_law_size", "_law_found", "_law_person", "_law_more", "_law_labels_here", "_law_top", "_law_label"]
def m__law_groupings : MSt :=
 (mSeq (mAsg 1 (mLst (mCons (mLst mNil) mNil)))
 (mSeq (mForS (.one 2) (mRng1 (mCons (mVar 0) mNil))
 (mSeq (mAsg 3 (mLst mNil))
 (mSeq (mFrz 1 (mForS (.one 4) (mIt (mVar 1))
 (mSeq (mAsg 5 (mBin fAdd (mCall (f1 gMax) (mCons (mBin fAdd (mVar 4) (mLst (mCons (mNeg (mCst (.int 1))) mNil))) mNil)) (mCst (.int 2))))
 (mAsg 3 (mBin fAdd (mVar 3) (mLc (.one 6) [6] (mRng1 (mCons (mVar 5) mNil)) mYes (mBin fAdd (mVar 4) (mLst (mCons (mVar 6) mNil)))))))))
 (mFrz 3 (mAsg 1 (mVar 3))))))
 (mRet (mCall gSortA (mCons (mLc (.one 4) [4] (mIt (mVar 1)) mYes (mFn 1 f__law_lots (mCons (mVar 4) mNil))) mNil)))))
def f__law_groupings : MF := mBody 7 m__law_groupings
theorem sc__law_groupings : FnScope N__law_groupings ["_law_size"] (defScope (top 60)) := ⟨rfl, rfl, rfl, by decide +kernel, rfl, by decide +kernel, by decide +kernel⟩
theorem d__law_groupings {P : Program} {w : World} {K : PySem.W.Frag} {mg : Str → Option Value} {base : Heap} {T : List Addr × List Int} (h : Hd K mg base T.1) : Fn P w K mg base T "_law_groupings" 2 1 (f__law_groupings) := by
  refine def_mk (h.d__law_groupings) sc__law_groupings rfl rfl (fun _ _ _ _ _ _ us hl => match us, hl with | [_], _ => rfl) ?_
  rintro G Y f c0 A outer s H E rfl rfl rfl rfl hgen c
  have B := h.nm
  exact (ss_cons (ss_set c.nd rfl (by first | exact Or.inl rfl | exact Or.inr rfl) (se_lst (sa_cons (se_lst sa_nil) sa_nil)))
 (ss_cons (ss_for PassesOwn.never c.ft (si_rng1 rfl B.range (sa_cons (sv 0) sa_nil)) (pg_name (i := 2) c.nd rfl (by first | exact Or.inl rfl | exact Or.inr rfl))
 (ss_cons (ss_set c.nd rfl (by first | exact Or.inl rfl | exact Or.inr rfl) (se_lst sa_nil))
 (ss_cons (ss_frz 1 (ss_for PassesOwn.never c.ft (si_it c (sv 1)) (pg_name (i := 4) c.nd rfl (by first | exact Or.inl rfl | exact Or.inr rfl))
 (ss_cons (ss_set c.nd rfl (by first | exact Or.inl rfl | exact Or.inr rfl) (se_add c (se_max0 c (sa_cons (se_add c (sv 4) (se_lst (sa_cons (se_neg se_int) sa_nil))) sa_nil) rfl B.max rfl) se_int))
 (ss_one (ss_set c.nd rfl (by first | exact Or.inl rfl | exact Or.inr rfl) (se_add c (sv 3) (se_lc (own := [("_law_label", 6)]) ⟨c.ft, c.nd, (si_rng1 rfl B.range (sa_cons (sv 5) sa_nil)), (blkOk_by (own := [("_law_label", 6)]) (N := N__law_groupings) (sc := (defScope (top 60))) (by decide +kernel)), fun _ _ _ _ _ => (pg_name (i := 6) c.blk.nd rfl (by first | exact Or.inl rfl | exact Or.inr rfl)), fun _ _ _ _ _ => sts_nil, fun _ _ _ _ _ => (se_add c.blk (sv 4) (se_lst (sa_cons (sv 6) sa_nil))), fun _ => rfl, rfl⟩))))) (fun _ => rfl)))
 (ss_one (ss_frz 3 (ss_set c.nd rfl (by first | exact Or.inl rfl | exact Or.inr rfl) (sv 3)))))) (fun _ => rfl))
 (ss_one (ss_ret (se_sorted0 c (sa_cons (se_lc (own := [("_law_labels_here", 4)]) ⟨c.ft, c.nd, (si_it c (sv 1)), (blkOk_by (own := [("_law_labels_here", 4)]) (N := N__law_groupings) (sc := (defScope (top 60))) (by decide +kernel)), fun _ _ _ _ _ => (pg_name (i := 4) c.blk.nd rfl (by first | exact Or.inl rfl | exact Or.inr rfl)), fun _ _ _ _ _ => sts_nil, fun _ _ _ _ _ => (se_call c.blk (d__law_lots h) (by decide) (sa_cons (sv 4) sa_nil) rfl (by decide) rfl rfl), fun _ => rfl, rfl⟩) sa_nil) rfl B.sorted rfl)))))
abbrev N__law_worth : List Str := ["_law_grouping_here", "_law_likings", "_law_labels_here", "_law_total", "_law_at", "_law_one", "_law_other"]
def m__law_worth : MSt :=
 (mSeq (mPar [2, 3, 4] (mCons (mFn 1 f__law_labels (mCons (mVar 0) mNil)) (mCons (mCst (.int 0)) (mCons (mCst (.int 0)) mNil))))
 (mSeq (mForS (.one 5) (mRng1 (mCons (mCall (f1 gLen) (mCons (mVar 2) mNil)) mNil))
 (mForS (.one 6) (mRng2 (mCons (mBin fAdd (mVar 5) (mCst (.int 1))) (mCons (mCall (f1 gLen) (mCons (mVar 2) mNil)) mNil)))
 (mPar [3, 4] (mCons (mBin fAdd (mVar 3) (mBin fMul (mBin fIx (mVar 1) (mVar 4)) (mCall (f1 gInt) (mCons (mBin fEq (mBin fIx (mVar 2) (mVar 5)) (mBin fIx (mVar 2) (mVar 6))) mNil)))) (mCons (mBin fAdd (mVar 4) (mCst (.int 1))) mNil)))))
 (mRetVar 3)))
def f__law_worth : MF := mBody 7 m__law_worth
theorem sc__law_worth : FnScope N__law_worth ["_law_grouping_here", "_law_likings"] (defScope (top 61)) := ⟨rfl, rfl, rfl, by decide +kernel, rfl, by decide +kernel, by decide +kernel⟩
theorem d__law_worth {P : Program} {w : World} {K : PySem.W.Frag} {mg : Str → Option Value} {base : Heap} {T : List Addr × List Int} (h : Hd K mg base T.1) : Fn P w K mg base T "_law_worth" 2 2 (f__law_worth) := by
  refine def_mk (h.d__law_worth) sc__law_worth rfl rfl (fun _ _ _ _ _ _ us hl => match us, hl with | [_, _], _ => rfl) ?_
  rintro G Y f c0 A outer s H E rfl rfl rfl rfl hgen c
  have B := h.nm
  exact (ss_cons (ss_par3 c.ft.calm c.nd rfl rfl rfl (by decide) (by decide) (by decide) rfl rfl rfl (sa_cons (se_call c (d__law_labels h) (by decide) (sa_cons (sv 0) sa_nil) rfl (by decide) rfl rfl) (sa_cons se_int (sa_cons se_int sa_nil))) rfl)
 (ss_cons (ss_for PassesOwn.never c.ft (si_rng1 rfl B.range (sa_cons (se_len0 c (sa_cons (sv 2) sa_nil) rfl B.len rfl) sa_nil)) (pg_name (i := 5) c.nd rfl (by first | exact Or.inl rfl | exact Or.inr rfl))
 (ss_one (ss_for PassesOwn.never c.ft (si_rng2 rfl B.range (sa_cons (se_add c (sv 5) se_int) (sa_cons (se_len0 c (sa_cons (sv 2) sa_nil) rfl B.len rfl) sa_nil))) (pg_name (i := 6) c.nd rfl (by first | exact Or.inl rfl | exact Or.inr rfl))
 (ss_one (ss_par c.ft.calm c.nd rfl rfl (by decide) rfl rfl (sa_cons (se_add c (sv 3) (se_mul c (se_at c (sv 1) (sv 4)) (se_int0 c (sa_cons (se_cmp (op_eqD c.u64) opr_eq (se_at c (sv 2) (sv 5)) (se_at c (sv 2) (sv 6)) (nomark _)) sa_nil) rfl B.int rfl))) (sa_cons (se_add c (sv 4) se_int) sa_nil)) rfl)) (fun _ => rfl))) (fun _ => rfl))
 (ss_one (ss_retv (pv 3)))))
end GD
/-! Je -/
set_option maxHeartbeats 4000000
/-! Je: the draws' row. -/
namespace GD
open PySem L2
section
variable {G : GC} {Y : AS} {X : Cx} {a b c e o : Expr} {pos pos' p p2 : Pos} {k : Nat}
/-- row[1], row[2], row[3] -/
def rwGet (r : Rw) : D → Option EV
  | .int 1 => some (evI r.i)
  | .int 2 => some (evI r.s)
  | .int 3 => some (evI r.r)
  | _ => none
def isRow : D → Bool
  | .row => true
  | _ => false
def isZ : D → Bool
  | .int i => decide (i = 0)
  | _ => false
def mRowIx (ma mb : ME) : ME := fun s => (ma s).bind fun p => (mb ⟨s.sl, p.2⟩).bind fun q => if isRow p.1.d = true then (rwGet q.2 q.1.d).map fun e => (e, q.2) else none
theorem top_row {M : AS} {H : Hp} {v : V} {d : D} (h : Top G M H v d) (q : isRow d = true) : v = .ref G.ro := by
  cases d <;> simp only [isRow] at q <;> try cases q
  simpa only [Top, Rep] using h
theorem rwGet_some {r : Rw} {d : D} {e : EV} (h : rwGet r d = some e) : ∃ (j i : Int) (n : Nat), d = .int j ∧ e = evI i ∧ L2.atI [V.ref G.sc, .int r.i, .int r.s, .int r.r] j = some (.int i) := by
  unfold rwGet at h
  split at h <;> cases h
  · exact ⟨1, _, 0, rfl, rfl, rfl⟩
  · exact ⟨2, _, 0, rfl, rfl, rfl⟩
  · exact ⟨3, _, 0, rfl, rfl, rfl⟩
theorem se_rowIx {ma mb : ME} (h : Ct G X k) (ha : SE G Y X a ma) (hb : SE G Y X b mb) (hs : PlainIx b := by intro _ _; rfl) : SE G Y X (.Subscript a b pos) (mRowIx ma mb) :=
  PE.weak (pe_ix ix_list ha hb hs) fun sg H Q q => by
    obtain ⟨N, st, x, r, at_, q, kk⟩ := q
    unfold mRowIx at q
    simp only [Option.bind_eq_some_iff] at q
    obtain ⟨⟨p, r1⟩, h1, ⟨q1, r2⟩, h2, h3⟩ := q
    simp only at h3
    split at h3
    · rename_i hr
      obtain ⟨e1, h4, h5⟩ := Option.map_eq_some_iff.mp h3
      cases h5
      refine ⟨N, st, p, r1, at_, h1, fun v H1 x1 w1 o1 => ⟨N, ⟨st.sl, r1⟩, q1, _, at_.ext x1 w1, h2, fun w H2 x2 w2 o2 => ?_⟩⟩
      obtain ⟨j, i, _, e2, rfl, e3⟩ := rwGet_some (G := G) h4
      have ev := top_row o1.top hr
      have ew : w = .int j := by
        obtain ⟨dq, kq⟩ := q1
        simp only at e2
        subst e2
        exact ev_int o2
      refine ⟨G.ro, _, j, _, ev, ew, ?_, e3, kk _ _ (x1.trans x2) w2 ok_int⟩
      exact SqL.of w2.1
    · cases h3
/-- len(row[0]) -/
def mScLen (ns : List Int) (ma mb : ME) : ME := fun s => (ma s).bind fun p => (mb ⟨s.sl, p.2⟩).bind fun q => if (isRow p.1.d && isZ q.1.d) = true then some (evI ns.length, q.2) else none
theorem ev_z {N : AS} {H H1 : Hp} {w : V} {q : EV} (o : EvOk G N H H1 w q) (h : isZ q.d = true) : w = .int 0 := by
  obtain ⟨d, kd⟩ := q
  cases d <;> simp only [isZ] at h <;> try cases h
  rename_i i
  have h := of_decide_eq_true h
  subst h
  exact ev_int o
theorem se_scLen {ma mb : ME} (h : Ct G X k) (ha : SE G Y X a ma) (hb : SE G Y X b mb) (hm : X.mg "len" = none) (hg : Gl X "len") (he : starEach [.Subscript a b pos] X.env = (false, eval (.Subscript a b pos) X.env) :: starEach [] X.env) (hs : PlainIx b := by intro _ _; rfl) :
    SE G Y X (.Call (.Name "len" p) [.Subscript a b pos] [] p2) (mScLen G.ns ma mb) :=
  PE.weak (pe_callB call_len hg hm (by decide +kernel) (pa_cons (pe_ix ix_list ha hb hs) pa_nil he) (by decide) (by decide) he rfl) fun sg H Q q => by
    obtain ⟨N, st, x, r, at_, q, kk⟩ := q
    unfold mScLen at q
    simp only [Option.bind_eq_some_iff] at q
    obtain ⟨⟨p, r1⟩, h1, ⟨q1, r2⟩, h2, h3⟩ := q
    simp only at h3
    split at h3
    · rename_i hr
      cases h3
      rw [Bool.and_eq_true] at hr
      refine ⟨N, st, p, r1, at_, h1, fun v H1 x1 w1 o1 => ⟨N, ⟨st.sl, r1⟩, q1, _, at_.ext x1 w1, h2, fun w H2 x2 w2 o2 => ?_⟩⟩
      have ev := top_row o1.top hr.1
      have ew := ev_z o2 hr.2
      refine ⟨G.ro, _, 0, .ref G.sc, ev, ew, SqL.of w2.1, rfl, ?_⟩
      refine ⟨.ref G.sc, (G.ns.map V.int).length, rfl, .inl ⟨_, by rw [h.ft.K]; exact w2.2.1, rfl⟩, ?_⟩
      rw [List.length_map]
      exact kk _ _ (x1.trans x2) w2 ok_int
    · cases h3
/-- row[0][j] -/
def mScAt (ns : List Int) (ma mb mc : ME) : ME := fun s => (ma s).bind fun p => (mb ⟨s.sl, p.2⟩).bind fun q => (mc ⟨s.sl, q.2⟩).bind fun w => if (isRow p.1.d && isZ q.1.d) = true then (match w.1.d with
  | .int j => (L2.atI ns j).map fun i => (evI i, w.2)
  | _ => none) else none
theorem atI_map {α β : Type} (f : α → β) {l : List α} {j : Int} {i : α} (h : L2.atI l j = some i) : L2.atI (l.map f) j = some (f i) := by
  unfold L2.atI at h ⊢
  simp only [List.length_map] at h ⊢
  rw [Option.bind_eq_some_iff] at h
  obtain ⟨n, h1, h2⟩ := h
  rw [h1]
  simp [h2]
theorem se_scAt {ma mb mc : ME} (h : Ct G X k) (ha : SE G Y X a ma) (hb : SE G Y X b mb) (hc : SE G Y X c mc) (hs : PlainIx b := by intro _ _; rfl) (hs2 : PlainIx c := by intro _ _; rfl) :
    SE G Y X (.Subscript (.Subscript a b pos) c pos') (mScAt G.ns ma mb mc) :=
  PE.weak (pe_ix ix_list (pe_ix ix_list ha hb hs) hc hs2) fun sg H Q q => by
    obtain ⟨N, st, x, r, at_, q, kk⟩ := q
    unfold mScAt at q
    simp only [Option.bind_eq_some_iff] at q
    obtain ⟨⟨p, r1⟩, h1, ⟨q1, r2⟩, h2, ⟨⟨dw, kw⟩, r3⟩, h2', h3⟩ := q
    simp only at h3
    split at h3
    · rename_i hr
      rw [Bool.and_eq_true] at hr
      cases dw <;> simp only at h3 <;> try cases h3
      rename_i j
      obtain ⟨i, h4, h5⟩ := Option.map_eq_some_iff.mp h3
      cases h5
      refine ⟨N, st, p, r1, at_, h1, fun v H1 x1 w1 o1 => ⟨N, ⟨st.sl, r1⟩, q1, _, at_.ext x1 w1, h2, fun w H2 x2 w2 o2 => ?_⟩⟩
      have ev := top_row o1.top hr.1
      have ew := ev_z o2 hr.2
      refine ⟨G.ro, _, 0, .ref G.sc, ev, ew, SqL.of w2.1, rfl, ?_⟩
      refine ⟨N, ⟨st.sl, r2⟩, _, _, (at_.ext x1 w1).ext x2 w2, h2', fun u H3 x3 w3 o3 => ?_⟩
      exact ⟨G.sc, _, j, .int i, rfl, ev_int o3, by rw [h.ft.K]; exact w3.2.1, atI_map V.int h4, kk _ _ ((x1.trans x2).trans x3) w3 ok_int⟩
    · cases h3
/-- row[j] = e, j 1 to 3 -/
def rwSet (r : Rw) : D → D → Option Rw
  | .int 1, .int v => some ⟨v, r.s, r.r⟩
  | .int 2, .int v => some ⟨r.i, v, r.r⟩
  | .int 3, .int v => some ⟨r.i, r.s, v⟩
  | _, _ => none
def mRowSet (i : Nat) (mk mv : ME) : MSt := fun s => (mv s).bind fun p => (mk ⟨s.sl, p.2⟩).bind fun q => match s.sl[i]? with
  | some (some (.dat d)) => if isRow d = true then (rwSet q.2 q.1.d p.1.d).map fun r => (.nx s.sl, r) else none
  | _ => none
theorem row_set {H : Hp} {r r' : Rw} {vs : List V} (h : RowAt G H r) (e : vs = [.ref G.sc, .int r'.i, .int r'.s, .int r'.r]) : Ext G H (upd H G.ro (.lst vs)) ∧ RowAt G (upd H G.ro (.lst vs)) r' := by
  subst e
  obtain ⟨h1, h2, h3⟩ := h
  have ex : Ext G H (upd H G.ro (.lst [.ref G.sc, .int r'.i, .int r'.s, .int r'.r])) := by
    refine ⟨fun a o ha hn _ => by rw [upd_ne hn]; exact ha, fun a xs ha => ?_, fun a ha => ?_⟩
    · have : a ≠ G.ro := by rintro rfl; rw [h1] at ha; cases ha
      rw [upd_ne this]; exact ha
    · by_cases hn : a = G.ro
      · rw [hn, upd_same] at ha; cases ha
      · rw [upd_ne hn] at ha; exact ha
  refine ⟨ex, upd_same, ?_, fun P hP => ?_⟩
  · rcases h2 with h2 | h2
    · have hne : G.sc ≠ G.ro := by
        intro hn
        rw [hn] at h2
        rcases h2 with h2 | ⟨o, h2⟩
        · rw [h1] at h2
          have h2 := Option.some.inj h2
          injection h2 with h2
          cases hns : G.ns with
          | nil => rw [hns] at h2; cases h2
          | cons i l => rw [hns] at h2; cases h2
        · rw [h1] at h2; cases h2
      rcases h2 with h2 | ⟨o, h2⟩
      · exact .inl (.inl (by rw [upd_ne hne]; exact h2))
      · exact .inl (.inr ⟨o, by rw [upd_ne hne]; exact h2⟩)
    · exact .inr h2
  · obtain ⟨ps, q1, q2⟩ := h3 P hP
    have : P ≠ G.ro := by rintro rfl; rw [h1] at q1; cases q1
    exact ⟨ps, by rw [upd_ne this]; exact q1, q2⟩
theorem rwSet_some {r r' : Rw} {d e : D} (h : rwSet r d e = some r') : ∃ (j v : Int) (n : Nat), d = .int j ∧ e = .int v ∧ ixN 4 j = some n ∧ ([V.ref G.sc, .int r.i, .int r.s, .int r.r].set n (.int v)) = [.ref G.sc, .int r'.i, .int r'.s, .int r'.r] := by
  unfold rwSet at h
  split at h <;> cases h
  · exact ⟨1, _, 1, rfl, rfl, rfl, rfl⟩
  · exact ⟨2, _, 2, rfl, rfl, rfl, rfl⟩
  · exact ⟨3, _, 3, rfl, rfl, rfl, rfl⟩
theorem ss_rowSet {i : Nat} {mk mv : ME} (h : Ct G X k) (ho : PE X o (tVar i)) (hk : SE G Y X a mk) (hv : SE G Y X e mv) (hs : swapsWithSole [.Subscript o a pos'] e pos.line X.env = pure false := by rfl) (hw : swappedStores [.Subscript o a pos'] e X.env = pure none := by rfl)
    (h1 : (assignEach [.Subscript o a pos'] X.env).map (·.2) = [assign (.Subscript o a pos') X.env] := by rfl)
    (ha : ∀ v, assign (.Subscript o a pos') X.env v = (do
      let ov ← holding [v] (eval o X.env)
      let iv ← holding [v, ov] (eval a X.env)
      standAt pos'
      holding [v, ov, iv] (setItem ov iv v)
      release [v, ov, iv] []) := by intro _; rfl) : SS G Y X (.Assign [.Subscript o a pos'] e pos) (mRowSet i mk mv) :=
  PS.weak (ps_asg hv (pg_sub ho hk set_list ha) hs hw h1) fun D sg H hq => by
    obtain ⟨N0, pn, N, s, fl, r, at_, q, kk⟩ := hq
    unfold mRowSet at q
    simp only [Option.bind_eq_some_iff] at q
    obtain ⟨⟨p, r1⟩, h1, ⟨q1, r2⟩, h2, h3⟩ := q
    simp only at h3
    split at h3
    · rename_i d hd
      split at h3
      · rename_i hr
        obtain ⟨r', h4, h5⟩ := Option.map_eq_some_iff.mp h3
        cases h5
        obtain ⟨v0, e0, rep0⟩ := at_.at_.sl.dat i d hd
        have ev := top_row rep0.top hr
        subst ev
        obtain ⟨j, v, n, e1, e2, e3, e4⟩ := rwSet_some (G := G) h4
        refine ⟨N, s, p, r1, at_.at_, h1, fun pv H1 x1 w1 o1 => ⟨_, e0, N, ⟨s.sl, r1⟩, q1, r2, at_.at_.ext x1 w1, h2, fun kv H2 x2 w2 o2 => ?_⟩⟩
        have ep : pv = .int v := by
          obtain ⟨dp, kp⟩ := p
          simp only at e2
          subst e2
          exact ev_int o1
        have ek : kv = .int j := by
          obtain ⟨dp, kp⟩ := q1
          simp only at e1
          subst e1
          exact ev_int o2
        refine ⟨G.ro, _, j, n, rfl, ek, w2.1, e3, ?_⟩
        rw [ep, e4]
        obtain ⟨x3, w3⟩ := row_set (r' := r) w2 rfl
        exact kk sg _ _ ((x1.trans x2).trans x3).y (at_.ext ((x1.trans x2).trans x3) w3)
      · cases h3
    · cases h3
def fPow : D → D → Option EV := fInt fun i j => if decide (0 ≤ j ∧ j ≤ 1000000 ∧ i.natAbs < 2 ^ 64) = true then some (evI (i ^ j.toNat)) else none
theorem se_pow {ma mb : ME} (ha : SE G Y X a ma) (hb : SE G Y X b mb) : SE G Y X (.BinOp a .Pow b pos) (mBin fPow ma mb) := se_bin op_pow (opr_int fun i j q => by
    have q2 : 0 ≤ j ∧ j ≤ 1000000 ∧ i.natAbs < 2 ^ 64 := of_decide_eq_true q
    exact q2) ha hb
end
end GD
/-! Jf -/
set_option maxHeartbeats 4000000
namespace GD
open PySem L2
abbrev N__law_taken : List Str := ["_law_row_here", "_law_many", "_law_found", "_law_cell"]
def m__law_taken (ns : List Int) : MSt :=
 (mSeq (mIfS (mTb (mBin fGt (mRowIx (mVar 0) (mCst (.int 3))) (mCst (.int 0))))
 (mSeq (mAsg 2 (mBin fMod (mCall (f1 gInt) (mCons (mRowIx (mVar 0) (mCst (.int 3))) mNil)) (mVar 1)))
 (mSeq (mRowSet 0 (mCst (.int 3)) (mBin fDiv (mRowIx (mVar 0) (mCst (.int 3))) (mVar 1)))
 (mRetVar 2)))
 mNext)
 (mSeq (mRowSet 0 (mCst (.int 1)) (mBin fAdd (mRowIx (mVar 0) (mCst (.int 1))) (mCst (.int 1))))
 (mSeq (mIfS (mTb (mBin fGt (mRowIx (mVar 0) (mCst (.int 1))) (mScLen ns (mVar 0) (mCst (.int 0)))))
 (mSeq (mRowSet 0 (mCst (.int 2)) (mBin fMod (mCall (f1 gInt) (mCons (mBin fAdd (mBin fMul (mRowIx (mVar 0) (mCst (.int 2))) (mCst (.int 48271))) (mCst (.int 11))) mNil)) (mCst (.int 2147483647))))
 (mRet (mBin fMod (mCall (f1 gInt) (mCons (mBin fDiv (mRowIx (mVar 0) (mCst (.int 2))) (mCst (.int 7))) mNil)) (mVar 1))))
 mNext)
 (mSeq (mAsg 3 (mScAt ns (mVar 0) (mCst (.int 0)) (mBin fSub (mRowIx (mVar 0) (mCst (.int 1))) (mCst (.int 1)))))
 (mSeq (mRowSet 0 (mCst (.int 2)) (mBin fMod (mCall (f1 gInt) (mCons (mBin fAdd (mBin fAdd (mBin fMul (mRowIx (mVar 0) (mCst (.int 2))) (mCst (.int 48271))) (mVar 3)) (mCst (.int 11))) mNil)) (mCst (.int 2147483647))))
 (mSeq (mIfS (mTb (mBin fGe (mVar 3) (mBin fPow (mCst (.int 10)) (mCst (.int 18)))))
 (mRowSet 0 (mCst (.int 3)) (mBin fDiv (mVar 3) (mVar 1)))
 mNext)
 (mRet (mBin fMod (mCall (f1 gInt) (mCons (mVar 3) mNil)) (mVar 1)))))))))
def f__law_taken (ns : List Int) : MF := mBody 4 (m__law_taken ns)
theorem sc__law_taken : FnScope N__law_taken ["_law_row_here", "_law_many"] (defScope (top 50)) := ⟨rfl, rfl, rfl, by decide +kernel, rfl, by decide +kernel, by decide +kernel⟩
theorem d__law_taken {P : Program} {w : World} {K : PySem.W.Frag} {mg : Str → Option Value} {base : Heap} {T : List Addr × List Int} (h : Hd K mg base T.1) : Fn P w K mg base T "_law_taken" 1 2 (f__law_taken T.2) := by
  refine def_mk (h.d__law_taken) sc__law_taken rfl rfl (fun _ _ _ _ _ _ us hl => match us, hl with | [_, _], _ => rfl) ?_
  rintro G Y f c0 A outer s H E rfl rfl rfl rfl hgen c
  have B := h.nm
  exact (ss_cons (ss_if (st_cmp op_gt opr_intB (se_rowIx c (sv 0) se_int) se_int (nomark _))
 (ss_cons (ss_set c.nd rfl (by first | exact Or.inl rfl | exact Or.inr rfl) (se_mod (se_int0 c (sa_cons (se_rowIx c (sv 0) se_int) sa_nil) rfl B.int rfl) (sv 1)))
 (ss_cons (ss_rowSet c (pv 0) se_int (se_div (se_rowIx c (sv 0) se_int) (sv 1)))
 (ss_one (ss_retv (pv 2)))))
 ss_nil)
 (ss_cons (ss_rowSet c (pv 0) se_int (se_add c (se_rowIx c (sv 0) se_int) se_int))
 (ss_cons (ss_if (st_cmp op_gt opr_intB (se_rowIx c (sv 0) se_int) (se_scLen c (sv 0) se_int B.len rfl rfl) (nomark _))
 (ss_cons (ss_rowSet c (pv 0) se_int (se_mod (se_int0 c (sa_cons (se_add c (se_mul c (se_rowIx c (sv 0) se_int) se_int) se_int) sa_nil) rfl B.int rfl) se_int))
 (ss_one (ss_ret (se_mod (se_int0 c (sa_cons (se_div (se_rowIx c (sv 0) se_int) se_int) sa_nil) rfl B.int rfl) (sv 1)))))
 ss_nil)
 (ss_cons (ss_set c.nd rfl (by first | exact Or.inl rfl | exact Or.inr rfl) (se_scAt c (sv 0) se_int (se_sub (se_rowIx c (sv 0) se_int) se_int)))
 (ss_cons (ss_rowSet c (pv 0) se_int (se_mod (se_int0 c (sa_cons (se_add c (se_add c (se_mul c (se_rowIx c (sv 0) se_int) se_int) (sv 3)) se_int) sa_nil) rfl B.int rfl) se_int))
 (ss_cons (ss_if (st_cmp op_ge opr_intB (sv 3) (se_pow se_int se_int) (nomark _))
 (ss_one (ss_rowSet c (pv 0) se_int (se_div (sv 3) (sv 1))))
 ss_nil)
 (ss_one (ss_ret (se_mod (se_int0 c (sa_cons (sv 3) sa_nil) rfl B.int rfl) (sv 1))))))))))
abbrev N__law_pick : List Str := ["_law_row_here", "_law_things"]
def m__law_pick (ns : List Int) : MSt :=
 (mRet (mBin fIx (mVar 1) (mFn 2 (f__law_taken ns) (mCons (mVar 0) (mCons (mCall (f1 gLen) (mCons (mVar 1) mNil)) mNil)))))
def f__law_pick (ns : List Int) : MF := mBody 2 (m__law_pick ns)
theorem sc__law_pick : FnScope N__law_pick ["_law_row_here", "_law_things"] (defScope (top 51)) := ⟨rfl, rfl, rfl, by decide +kernel, rfl, by decide +kernel, by decide +kernel⟩
theorem d__law_pick {P : Program} {w : World} {K : PySem.W.Frag} {mg : Str → Option Value} {base : Heap} {T : List Addr × List Int} (h : Hd K mg base T.1) : Fn P w K mg base T "_law_pick" 2 2 (f__law_pick T.2) := by
  refine def_mk (h.d__law_pick) sc__law_pick rfl rfl (fun _ _ _ _ _ _ us hl => match us, hl with | [_, _], _ => rfl) ?_
  rintro G Y f c0 A outer s H E rfl rfl rfl rfl hgen c
  have B := h.nm
  exact (ss_one (ss_ret (se_at c (sv 1) (se_call c (d__law_taken h) (by decide) (sa_cons (sv 0) (sa_cons (se_len0 c (sa_cons (sv 1) sa_nil) rfl B.len rfl) sa_nil)) rfl (by decide) rfl rfl))))
abbrev N__law_row : List Str := ["_law_row_here", "_law_size", "_law_most", "_law_steps_here", "_law_k"]
def m__law_row (ns : List Int) : MSt :=
 (mSeq (mAsg 3 (mFn 1 f__law_steps (mCons (mVar 1) mNil)))
 (mFrz 3 (mRet (mCall (f1 gTuple) (mCons (mLc (.one 4) [4] (mRng1 (mCons (mFn 2 (f__law_taken ns) (mCons (mVar 0) (mCons (mBin fAdd (mVar 2) (mCst (.int 1))) mNil))) mNil)) mYes (mFn 2 (f__law_pick ns) (mCons (mVar 0) (mCons (mVar 3) mNil)))) mNil)))))
def f__law_row (ns : List Int) : MF := mBody 5 (m__law_row ns)
theorem sc__law_row : FnScope N__law_row ["_law_row_here", "_law_size", "_law_most"] (defScope (top 59)) := ⟨rfl, rfl, rfl, by decide +kernel, rfl, by decide +kernel, by decide +kernel⟩
theorem d__law_row {P : Program} {w : World} {K : PySem.W.Frag} {mg : Str → Option Value} {base : Heap} {T : List Addr × List Int} (h : Hd K mg base T.1) : Fn P w K mg base T "_law_row" 3 3 (f__law_row T.2) := by
  refine def_mk (h.d__law_row) sc__law_row rfl rfl (fun _ _ _ _ _ _ us hl => match us, hl with | [_, _, _], _ => rfl) ?_
  rintro G Y f c0 A outer s H E rfl rfl rfl rfl hgen c
  have B := h.nm
  exact (ss_cons (ss_set c.nd rfl (by first | exact Or.inl rfl | exact Or.inr rfl) (se_call c (d__law_steps h) (by decide) (sa_cons (sv 1) sa_nil) rfl (by decide) rfl rfl))
 (ss_one (ss_frz 3 (ss_ret (se_tuple0 c (sa_cons (se_lc (own := [("_law_k", 4)]) ⟨c.ft, c.nd, (si_rng1 rfl B.range (sa_cons (se_call c (d__law_taken h) (by decide) (sa_cons (sv 0) (sa_cons (se_add c (sv 2) se_int) sa_nil)) rfl (by decide) rfl rfl) sa_nil)), (blkOk_by (own := [("_law_k", 4)]) (N := N__law_row) (sc := (defScope (top 59))) (by decide +kernel)), fun _ _ _ _ _ => (pg_name (i := 4) c.blk.nd rfl (by first | exact Or.inl rfl | exact Or.inr rfl)), fun _ _ _ _ _ => sts_nil, fun _ _ _ _ _ => (se_call c.blk (d__law_pick h) (by decide) (sa_cons (sv 0) (sa_cons (sv 3) sa_nil)) rfl (by decide) rfl rfl), fun _ => rfl, rfl⟩) sa_nil) rfl B.tuple rfl)))))
abbrev N__law_stays : List Str := ["_law_start", "_law_likings", "_law_prices", "_law_table", "_law_many", "_law_row_here", "_law_some", "_law_steps_here", "_law_rows", "_law_turn", "_law_more", "_law_one", "_law_here", "_law_total", "_law_step_here", "_law_there", "_law_best", "_law_found", "_law_good", "_law_word", "_law_value", "_law_due"]
def m__law_stays (ns : List Int) : MSt :=
 (mSeq (mPar [6, 7] (mCons (mFn 1 f__law_groupings (mCons (mCall (f1 gLen) (mCons (mFn 1 f__law_labels (mCons (mVar 0) mNil)) mNil)) mNil)) (mCons (mCall gListA (mCons (mVar 3) mNil)) mNil)))
 (mSeq (mAsg 8 (mLst (mCons (mTup (mCons (mTup mNil) (mCons (mVar 0) (mCons (mCst (.int 0)) mNil)))) mNil)))
 (mSeq (mForS (.one 9) (mRng1 (mCons (mVar 4) mNil))
 (mSeq (mAsg 10 (mLst mNil))
 (mSeq (mFrz 8 (mForS (.many [11, 12, 13]) (mIt (mVar 8))
 (mFrz 7 (mForS (.one 14) (mIt (mVar 7))
 (mSeq (mAsg 15 (mFn 2 f__law_step (mCons (mVar 12) (mCons (mVar 14) mNil))))
 (mApp 10 (mTup (mCons (mBin fAdd (mVar 11) (mTup (mCons (mVar 14) mNil))) (mCons (mVar 15) (mCons (mBin fSub (mBin fAdd (mVar 13) (mFn 2 f__law_worth (mCons (mVar 15) (mCons (mVar 1) mNil)))) (mBin fIx (mVar 3) (mVar 14))) mNil))))))))))
 (mFrz 10 (mAsg 8 (mVar 10))))))
 (mSeq (mPar [16, 17] (mCons (mCall (f1 gMax) (mCons (mLc (.one 11) [11] (mIt (mVar 8)) mYes (mBin fIx (mVar 11) (mCst (.int 2)))) mNil)) (mCons (mFn 4 f_best_stay (mCons (mVar 0) (mCons (mVar 1) (mCons (mVar 2) (mCons (mVar 4) mNil))))) mNil)))
 (mSeq (mAsg 18 (mLc (.one 11) [11] (mIt (mVar 8)) (mTb (mBin fEq (mBin fIx (mVar 11) (mCst (.int 2))) (mVar 16))) (mBin fIx (mVar 11) (mCst (.int 0)))))
 (mSeq (mIfS (mTOr (mTNot (mTb (mIs isTupD (mVar 17)))) (mTOr (mTb (mBin fNe (mCall (f1 gLen) (mCons (mVar 17) mNil)) (mCst (.int 2)))) (mTOr (mTb (mBin fNe (mBin fIx (mVar 17) (mCst (.int 0))) (mVar 16))) (mTb (mBin (fIn true) (mBin fIx (mVar 17) (mCst (.int 1))) (mVar 18))))))
 (mRet (mCst (.bl false)))
 mNext)
 (mSeq (mAsg 19 (mBin fIx (mVar 17) (mCst (.int 1))))
 (mSeq (mFrz 8 (mForS (.one 20) (mIt (mLst (mCons (mVar 17) (mCons (mCall gListA (mCons (mVar 17) mNil)) (mCons (mTup (mCons (mVar 16) (mCons (mCall gListA (mCons (mVar 19) mNil)) mNil))) (mCons (mTup (mCons (mBin fAdd (mVar 16) (mCst (.int 1))) (mCons (mVar 19) mNil))) (mCons (mTup (mCons (mVar 16) (mCons (mSl fSlT (mVar 19) (mOSome (mCst (.int 1))) mONone) mNil))) (mCons (mTup (mCons (mVar 16) (mCons (mTup mNil) mNil))) (mCons (mCst .non) (mCons (mCst (.int 3)) (mCons (mTup (mCons (mVar 16) (mCons (mBin fIx (mFn 2 (f__law_pick ns) (mCons (mVar 5) (mCons (mVar 8) mNil))) (mCst (.int 0))) mNil))) (mCons (mTup (mCons (mVar 16) (mCons (mRevT (mVar 19)) mNil))) mNil))))))))))))
 (mSeq (mAsg 21 (mAnd (mIs isTupD (mVar 20)) (mAnd (mBin fEq (mCall (f1 gLen) (mCons (mVar 20) mNil)) (mCst (.int 2))) (mAnd (mBin fEq (mBin fIx (mVar 20) (mCst (.int 0))) (mVar 16)) (mAnd (mIs isTupD (mBin fIx (mVar 20) (mCst (.int 1)))) (mBin (fIn false) (mBin fIx (mVar 20) (mCst (.int 1))) (mVar 18)))))))
 (mIfS (mTNot (mTb (mFn 2 f__law_alike (mCons (mFn 5 f_shows_best_stay (mCons (mVar 0) (mCons (mVar 1) (mCons (mVar 2) (mCons (mVar 4) (mCons (mVar 20) mNil)))))) (mCons (mVar 21) mNil)))))
 (mRet (mCst (.bl false)))
 mNext))))
 (mSeq (mAsg 8 (mFn 3 f_stay_worths (mCons (mVar 1) (mCons (mVar 2) (mCons (mVar 4) mNil)))))
 (mRet (mAnd (mBin fEq (mCall (f1 gLen) (mCons (mVar 8) mNil)) (mBin fAdd (mVar 4) (mCst (.int 1)))) (mAnd (mBin fEq (mBin fIx (mVar 8) (mCst (.int 0))) (mBin fMul (mTup (mCons (mCst (.int 0)) mNil)) (mCall (f1 gLen) (mCons (mVar 6) mNil)))) (mBin fEq (mBin fIx (mBin fIx (mVar 8) (mVar 4)) (mBin fIdx (mVar 6) (mVar 0))) (mVar 16))))))))))))))
def f__law_stays (ns : List Int) : MF := mBody 22 (m__law_stays ns)
theorem sc__law_stays : FnScope N__law_stays ["_law_start", "_law_likings", "_law_prices", "_law_table", "_law_many", "_law_row_here"] (defScope (top 62)) := ⟨rfl, rfl, rfl, by decide +kernel, rfl, by decide +kernel, by decide +kernel⟩
theorem d__law_stays {P : Program} {w : World} {K : PySem.W.Frag} {mg : Str → Option Value} {base : Heap} {T : List Addr × List Int} (h : Hd K mg base T.1) : Fn P w K mg base T "_law_stays" 10 6 (f__law_stays T.2) := by
  refine def_mk (h.d__law_stays) sc__law_stays rfl rfl (fun _ _ _ _ _ _ us hl => match us, hl with | [_, _, _, _, _, _], _ => rfl) ?_
  rintro G Y f c0 A outer s H E rfl rfl rfl rfl hgen c
  have B := h.nm
  exact (ss_cons (ss_par c.ft.calm c.nd rfl rfl (by decide) rfl rfl (sa_cons (se_call c (d__law_groupings h) (by decide) (sa_cons (se_len0 c (sa_cons (se_call c (d__law_labels h) (by decide) (sa_cons (sv 0) sa_nil) rfl (by decide) rfl rfl) sa_nil) rfl B.len rfl) sa_nil) rfl (by decide) rfl rfl) (sa_cons (se_list0 c (sa_cons (sv 3) sa_nil) rfl B.list rfl) sa_nil)) rfl)
 (ss_cons (ss_set c.nd rfl (by first | exact Or.inl rfl | exact Or.inr rfl) (se_lst (sa_cons (se_tup (sa_cons (se_tup sa_nil) (sa_cons (sv 0) (sa_cons se_int sa_nil)))) sa_nil)))
 (ss_cons (ss_for PassesOwn.never c.ft (si_rng1 rfl B.range (sa_cons (sv 4) sa_nil)) (pg_name (i := 9) c.nd rfl (by first | exact Or.inl rfl | exact Or.inr rfl))
 (ss_cons (ss_set c.nd rfl (by first | exact Or.inl rfl | exact Or.inr rfl) (se_lst sa_nil))
 (ss_cons (ss_frz 8 (ss_for PassesOwn.never c.ft (si_it c (sv 8)) (pg_tup c.ft.calm (pgs_cons (pg_name (i := 11) c.nd rfl (by first | exact Or.inl rfl | exact Or.inr rfl)) (pgs_cons (pg_name (i := 12) c.nd rfl (by first | exact Or.inl rfl | exact Or.inr rfl)) (pgs_cons (pg_name (i := 13) c.nd rfl (by first | exact Or.inl rfl | exact Or.inr rfl)) pgs_nil))))
 (ss_one (ss_frz 7 (ss_for PassesOwn.never c.ft (si_it c (sv 7)) (pg_name (i := 14) c.nd rfl (by first | exact Or.inl rfl | exact Or.inr rfl))
 (ss_cons (ss_set c.nd rfl (by first | exact Or.inl rfl | exact Or.inr rfl) (se_call c (d__law_step h) (by decide) (sa_cons (sv 12) (sa_cons (sv 14) sa_nil)) rfl (by decide) rfl rfl))
 (ss_one (ss_append 10 c (pv 10) (se_tup (sa_cons (se_add c (sv 11) (se_tup (sa_cons (sv 14) sa_nil))) (sa_cons (sv 15) (sa_cons (se_sub (se_add c (sv 13) (se_call c (d__law_worth h) (by decide) (sa_cons (sv 15) (sa_cons (sv 1) sa_nil)) rfl (by decide) rfl rfl)) (se_at c (sv 3) (sv 14))) sa_nil)))) rfl rfl rfl rfl rfl rfl))) (fun _ => rfl)))) (fun _ => rfl)))
 (ss_one (ss_frz 10 (ss_set c.nd rfl (by first | exact Or.inl rfl | exact Or.inr rfl) (sv 10)))))) (fun _ => rfl))
 (ss_cons (ss_tupd c.ft.calm (sa_cons (se_max0 c (sa_cons (se_lc (own := [("_law_one", 11)]) ⟨c.ft, c.nd, (si_it c (sv 8)), (blkOk_by (own := [("_law_one", 11)]) (N := N__law_stays) (sc := (defScope (top 62))) (by decide +kernel)), fun _ _ _ _ _ => (pg_name (i := 11) c.blk.nd rfl (by first | exact Or.inl rfl | exact Or.inr rfl)), fun _ _ _ _ _ => sts_nil, fun _ _ _ _ _ => (se_at c.blk (sv 11) se_int), fun _ => rfl, rfl⟩) sa_nil) rfl B.max rfl) (sa_cons (se_call c (d_best_stay h) (by decide) (sa_cons (sv 0) (sa_cons (sv 1) (sa_cons (sv 2) (sa_cons (sv 4) sa_nil)))) rfl (by decide) rfl rfl) sa_nil)) (pgs_cons (pg_name (i := 16) c.nd rfl (by first | exact Or.inl rfl | exact Or.inr rfl)) (pgs_cons (pg_name (i := 17) c.nd rfl (by first | exact Or.inl rfl | exact Or.inr rfl)) pgs_nil)))
 (ss_cons (ss_lc (own := [("_law_one", 11)]) ⟨c.ft, c.nd, (si_it c (sv 8)), (blkOk_by (own := [("_law_one", 11)]) (N := N__law_stays) (sc := (defScope (top 62))) (by decide +kernel)), fun _ _ _ _ _ => (pg_name (i := 11) c.blk.nd rfl (by first | exact Or.inl rfl | exact Or.inr rfl)), fun _ _ _ _ _ => (sts_one (st_cmp (op_eqD c.blk.u64) opr_eq (se_at c.blk (sv 11) se_int) (sv 16) (nomark _))), fun _ _ _ _ _ => (se_at c.blk (sv 11) se_int), fun _ => rfl, rfl⟩ (hy := rfl) (hyl := rfl) (hsw := rfl))
 (ss_cons (ss_if (st_w (sw_or (st_not (st_val (se_isTup c (sv 17) B.isinstance rfl B.tuple rfl rfl rfl))) (sw_or (st_cmp (op_neD c.u64) opr_ne (se_len0 c (sa_cons (sv 17) sa_nil) rfl B.len rfl) se_int (nomark _)) (sw_or (st_cmp (op_neD c.u64) opr_ne (se_at c (sv 17) se_int) (sv 16) (nomark _)) (sw_or1 (st_cmp (op_ninA c) (opr_inA c) (se_at c (sv 17) se_int) (sv 18) rfl))))))
 (ss_one (ss_ret se_bl))
 ss_nil)
 (ss_cons (ss_set c.nd rfl (by first | exact Or.inl rfl | exact Or.inr rfl) (se_at c (sv 17) se_int))
 (ss_cons (ss_frz 8 (ss_for PassesOwn.never c.ft (si_it c (se_lst (sa_cons (sv 17) (sa_cons (se_list0 c (sa_cons (sv 17) sa_nil) rfl B.list rfl) (sa_cons (se_tup (sa_cons (sv 16) (sa_cons (se_list0 c (sa_cons (sv 19) sa_nil) rfl B.list rfl) sa_nil))) (sa_cons (se_tup (sa_cons (se_add c (sv 16) se_int) (sa_cons (sv 19) sa_nil))) (sa_cons (se_tup (sa_cons (sv 16) (sa_cons (se_slT (x1 := ⟨0, 0, 0, 0⟩) c.ft (sv 19) (so_some se_int) so_none) sa_nil))) (sa_cons (se_tup (sa_cons (sv 16) (sa_cons (se_tup sa_nil) sa_nil))) (sa_cons se_non (sa_cons se_int (sa_cons (se_tup (sa_cons (sv 16) (sa_cons (se_at c (se_call c (d__law_pick h) (by decide) (sa_cons (sv 5) (sa_cons (sv 8) sa_nil)) rfl (by decide) rfl rfl) se_int) sa_nil))) (sa_cons (se_tup (sa_cons (sv 16) (sa_cons (se_revT c.ft (sv 19)) sa_nil))) sa_nil)))))))))))) (pg_name (i := 20) c.nd rfl (by first | exact Or.inl rfl | exact Or.inr rfl))
 (ss_cons (ss_set c.nd rfl (by first | exact Or.inl rfl | exact Or.inr rfl) (se_and (se_isTup c (sv 20) B.isinstance rfl B.tuple rfl rfl rfl) (se_and (se_cmp (op_eqD c.u64) opr_eq (se_len0 c (sa_cons (sv 20) sa_nil) rfl B.len rfl) se_int (nomark _)) (se_and (se_cmp (op_eqD c.u64) opr_eq (se_at c (sv 20) se_int) (sv 16) (nomark _)) (se_and (se_isTup c (se_at c (sv 20) se_int) B.isinstance rfl B.tuple rfl rfl rfl) (se_one (se_cmp (op_inA c) (opr_inA c) (se_at c (sv 20) se_int) (sv 18) rfl)))))))
 (ss_one (ss_if (st_not (st_val (se_call c (d__law_alike h) (by decide) (sa_cons (se_call c (d_shows_best_stay h) (by decide) (sa_cons (sv 0) (sa_cons (sv 1) (sa_cons (sv 2) (sa_cons (sv 4) (sa_cons (sv 20) sa_nil))))) rfl (by decide) rfl rfl) (sa_cons (sv 21) sa_nil)) rfl (by decide) rfl rfl)))
 (ss_one (ss_ret se_bl))
 ss_nil))) (fun _ => rfl)))
 (ss_cons (ss_set c.nd rfl (by first | exact Or.inl rfl | exact Or.inr rfl) (se_call c (d_stay_worths h) (by decide) (sa_cons (sv 1) (sa_cons (sv 2) (sa_cons (sv 4) sa_nil))) rfl (by decide) rfl rfl))
 (ss_one (ss_ret (se_and (se_cmp (op_eqD c.u64) opr_eq (se_len0 c (sa_cons (sv 8) sa_nil) rfl B.len rfl) (se_add c (sv 4) se_int) (nomark _)) (se_and (se_cmp (op_eqD c.u64) opr_eq (se_at c (sv 8) se_int) (se_mul c (se_tup (sa_cons se_int sa_nil)) (se_len0 c (sa_cons (sv 6) sa_nil) rfl B.len rfl)) (nomark _)) (se_one (se_cmp (op_eqD c.u64) opr_eq (se_at c (se_at c (sv 8) (sv 4)) (se_index c (sv 6) (sv 0) rfl rfl rfl rfl rfl)) (sv 16) (nomark _))))))))))))))))
abbrev N_law : List Str := ["_law_script", "_law_row_here", "_law_size", "_law_many", "_law_likings", "_law_prices", "_law_some", "_law_steps_here", "_law_start", "_law_pairs", "_law_table", "_law_least", "_law_walk", "_law_more", "_law_here", "_law_step_here", "_law_there", "_law_best", "_law_found", "_law_word", "_law_value", "_law_due", "_law_k"]
def m_law (ns : List Int) : MSt :=
 (mSeq (mPar [2, 3] (mCons (mBin fAdd (mCst (.int 1)) (mFn 2 (f__law_taken ns) (mCons (mVar 1) (mCons (mCst (.int 3)) mNil)))) (mCons (mBin fAdd (mCst (.int 1)) (mFn 2 (f__law_taken ns) (mCons (mVar 1) (mCons (mCst (.int 2)) mNil)))) mNil)))
 (mSeq (mAsg 4 (mCall (f1 gTuple) (mCons (mLc (.one 22) [22] (mRng1 (mCons (mBin fDiv (mBin fMul (mVar 2) (mBin fSub (mVar 2) (mCst (.int 1)))) (mCst (.int 2))) mNil)) mYes (mBin fSub (mFn 2 (f__law_taken ns) (mCons (mVar 1) (mCons (mCst (.int 15)) mNil))) (mCst (.int 7)))) mNil)))
 (mSeq (mAsg 5 (mTup (mCons (mCall (f1 gTuple) (mCons (mLc (.one 22) [22] (mRng1 (mCons (mVar 2) mNil)) mYes (mFn 2 (f__law_taken ns) (mCons (mVar 1) (mCons (mCst (.int 6)) mNil)))) mNil)) (mCons (mCall (f1 gTuple) (mCons (mLc (.one 22) [22] (mRng1 (mCons (mBin fDiv (mBin fMul (mVar 2) (mBin fSub (mVar 2) (mCst (.int 1)))) (mCst (.int 2))) mNil)) mYes (mFn 2 (f__law_taken ns) (mCons (mVar 1) (mCons (mCst (.int 6)) mNil)))) mNil)) mNil))))
 (mSeq (mPar [6, 7] (mCons (mFn 1 f__law_groupings (mCons (mVar 2) mNil)) (mCons (mFn 1 f__law_steps (mCons (mVar 2) mNil)) mNil)))
 (mSeq (mFrz 6 (mPar [8, 9] (mCons (mFn 2 (f__law_pick ns) (mCons (mVar 1) (mCons (mVar 6) mNil))) (mCons (mLc (.one 15) [15] (mIt (mFn 1 f__law_steps (mCons (mVar 2) mNil))) (mTb (mBin fEq (mCall (f1 gLen) (mCons (mVar 15) mNil)) (mCst (.int 2)))) (mVar 15)) mNil))))
 (mSeq (mAsg 10 (mCall (f1 gDictP) (mCons (mLc (.one 15) [15] (mIt (mVar 7)) mYes (mTup (mCons (mVar 15) (mCons (mIf (mTb (mBin fEq (mCall (f1 gLen) (mCons (mVar 15) mNil)) (mCst (.int 1)))) (mBin fIx (mBin fIx (mVar 5) (mCst (.int 0))) (mBin fIx (mVar 15) (mCst (.int 0)))) (mBin fIx (mBin fIx (mVar 5) (mCst (.int 1))) (mBin fIdx (mVar 9) (mVar 15)))) mNil)))) mNil)))
 (mSeq (mPar [11, 12] (mCons (mD1 (mVar 8) (mCst (.int 0))) (mCons (mLst (mCons (mVar 8) mNil)) mNil)))
 (mSeq (mWh (mTb (mBin fNe (mVar 12) (mLst mNil)))
 (mSeq (mAsg 13 (mLst mNil))
 (mSeq (mFrz 12 (mForS (.one 14) (mIt (mVar 12))
 (mFrz 7 (mForS (.one 15) (mIt (mVar 7))
 (mSeq (mAsg 16 (mFn 2 f__law_step (mCons (mVar 14) (mCons (mVar 15) mNil))))
 (mIfS (mTOr (mTb (mBin (fIn true) (mVar 16) (mVar 11))) (mTb (mBin fLt (mBin fAdd (mBin fIx (mVar 11) (mVar 14)) (mBin fIx (mVar 10) (mVar 15))) (mBin fIx (mVar 11) (mVar 16)))))
 (mSeq (mPutT 11 (mVar 16) (mBin fAdd (mBin fIx (mVar 11) (mVar 14)) (mBin fIx (mVar 10) (mVar 15))))
 (mApp 13 (mVar 16)))
 mNext))))))
 (mFrz 13 (mAsg 12 (mVar 13))))) 10000)
 (mSeq (mAsg 17 (mCall (f1 gMax) (mCons (mLc (.one 16) [16] (mIt (mVar 11)) mYes (mBin fSub (mFn 2 f__law_worth (mCons (mVar 16) (mCons (mVar 4) mNil))) (mBin fIx (mVar 11) (mVar 16)))) mNil)))
 (mSeq (mAsg 18 (mFn 3 f_best_net (mCons (mVar 8) (mCons (mVar 4) (mCons (mVar 5) mNil)))))
 (mSeq (mAsg 19 (mBin fIx (mVar 18) (mCst (.int 1))))
 (mSeq (mForS (.one 20) (mIt (mLst (mCons (mVar 18) (mCons (mCall gListA (mCons (mVar 18) mNil)) (mCons (mTup (mCons (mVar 17) (mCons (mCall gListA (mCons (mVar 19) mNil)) mNil))) (mCons (mTup (mCons (mBin fAdd (mVar 17) (mCst (.int 1))) (mCons (mVar 19) mNil))) (mCons (mTup (mCons (mVar 17) (mCons (mSl fSlT (mVar 19) (mOSome (mCst (.int 1))) mONone) mNil))) (mCons (mTup (mCons (mVar 17) (mCons (mTup mNil) mNil))) (mCons (mCst .non) (mCons (mCst (.int 3)) (mCons (mTup (mCons (mVar 17) (mCons (mFn 3 (f__law_row ns) (mCons (mVar 1) (mCons (mVar 2) (mCons (mCst (.int 3)) mNil)))) mNil))) (mCons (mTup (mCons (mVar 17) (mCons (mTup (mCons (mTup (mCons (mVar 2) mNil)) mNil)) mNil))) mNil))))))))))))
 (mSeq (mAsg 21 (mAnd (mIs isTupD (mVar 20)) (mAnd (mBin fEq (mCall (f1 gLen) (mCons (mVar 20) mNil)) (mCst (.int 2))) (mAnd (mBin fEq (mBin fIx (mVar 20) (mCst (.int 0))) (mVar 17)) (mIs isTupD (mBin fIx (mVar 20) (mCst (.int 1))))))))
 (mSeq (mAsg 21 (mAnd (mVar 21) (mAnd (mBin fLe (mCall (f1 gLen) (mCons (mBin fIx (mVar 20) (mCst (.int 1))) mNil)) (mCst (.int 300))) (mBin fEq (mLc (.one 15) [15] (mIt (mBin fIx (mVar 20) (mCst (.int 1)))) (mTb (mBin (fIn true) (mVar 15) (mVar 7))) (mVar 15)) (mLst mNil)))))
 (mSeq (mAsg 21 (mAnd (mVar 21) (mBin fEq (mBin fSub (mFn 2 f__law_worth (mCons (mFn 2 f__law_done (mCons (mVar 8) (mCons (mBin fIx (mVar 20) (mCst (.int 1))) mNil))) (mCons (mVar 4) mNil))) (mCall (f1 gSum) (mCons (mLc (.one 15) [15] (mIt (mBin fIx (mVar 20) (mCst (.int 1)))) mYes (mBin fIx (mVar 10) (mVar 15))) mNil))) (mVar 17))))
 (mIfS (mTNot (mTb (mFn 2 f__law_alike (mCons (mFn 4 f_shows_best_net (mCons (mVar 8) (mCons (mVar 4) (mCons (mVar 5) (mCons (mVar 20) mNil))))) (mCons (mVar 21) mNil)))))
 (mRet (mCst (.bl false)))
 mNext)))))
 (mSeq (mIfS (mTb (mBin fIsNB (mFn 4 f_shows_best_net (mCons (mVar 8) (mCons (mVar 4) (mCons (mVar 5) (mCons (mVar 18) mNil))))) (mCst (.bl true))))
 (mRet (mCst (.bl false)))
 mNext)
 (mFrz 10 (mRet (mFn 6 (f__law_stays ns) (mCons (mVar 8) (mCons (mVar 4) (mCons (mVar 5) (mCons (mVar 10) (mCons (mVar 3) (mCons (mVar 1) mNil))))))))))))))))))))))
def f_law (ns : List Int) : MF := mBody 23 (m_law ns)
theorem sc_law : FnScope N_law ["_law_script"] (defScope (top 63)) := ⟨rfl, rfl, rfl, by decide +kernel, rfl, by decide +kernel, by decide +kernel⟩
theorem b_law {mg : Str → Option Value} {base : Heap} (G : GC) (Y : AS) (f c0 : Addr) (A : Around) (outer : List Env) (s : Shared) (H : Hp) (E : XK) (h : Hd G.K mg base G.tabs) (c : Ct G (cxOf CX0 G.P G.w G.K mg base N_law "law" (defScope (top 63)) f (.ref c0) A outer s H E).nox 10) :
    SSs G Y (cxOf CX0 G.P G.w G.K mg base N_law "law" (defScope (top 63)) f (.ref c0) A outer s H E).nox (defBody (top 63)).tail (m_law G.ns) := by
  have B := h.nm
  have ns := G.ns
  exact (ss_cons (ss_par c.ft.calm c.nd rfl rfl (by decide) rfl rfl (sa_cons (se_add c se_int (se_call c (d__law_taken h) (by decide) (sa_cons (sv 1) (sa_cons se_int sa_nil)) rfl (by decide) rfl rfl)) (sa_cons (se_add c se_int (se_call c (d__law_taken h) (by decide) (sa_cons (sv 1) (sa_cons se_int sa_nil)) rfl (by decide) rfl rfl)) sa_nil)) rfl)
 (ss_cons (ss_set c.nd rfl (by first | exact Or.inl rfl | exact Or.inr rfl) (se_tuple0 c (sa_cons (se_lc (own := [("_law_k", 22)]) ⟨c.ft, c.nd, (si_rng1 rfl B.range (sa_cons (se_div (se_mul c (sv 2) (se_sub (sv 2) se_int)) se_int) sa_nil)), (blkOk_by (own := [("_law_k", 22)]) (N := N_law) (sc := (defScope (top 63))) (by decide +kernel)), fun _ _ _ _ _ => (pg_name (i := 22) c.blk.nd rfl (by first | exact Or.inl rfl | exact Or.inr rfl)), fun _ _ _ _ _ => sts_nil, fun _ _ _ _ _ => (se_sub (se_call c.blk (d__law_taken h) (by decide) (sa_cons (sv 1) (sa_cons se_int sa_nil)) rfl (by decide) rfl rfl) se_int), fun _ => rfl, rfl⟩) sa_nil) rfl B.tuple rfl))
 (ss_cons (ss_set c.nd rfl (by first | exact Or.inl rfl | exact Or.inr rfl) (se_tup (sa_cons (se_tuple0 c (sa_cons (se_lc (own := [("_law_k", 22)]) ⟨c.ft, c.nd, (si_rng1 rfl B.range (sa_cons (sv 2) sa_nil)), (blkOk_by (own := [("_law_k", 22)]) (N := N_law) (sc := (defScope (top 63))) (by decide +kernel)), fun _ _ _ _ _ => (pg_name (i := 22) c.blk.nd rfl (by first | exact Or.inl rfl | exact Or.inr rfl)), fun _ _ _ _ _ => sts_nil, fun _ _ _ _ _ => (se_call c.blk (d__law_taken h) (by decide) (sa_cons (sv 1) (sa_cons se_int sa_nil)) rfl (by decide) rfl rfl), fun _ => rfl, rfl⟩) sa_nil) rfl B.tuple rfl) (sa_cons (se_tuple0 c (sa_cons (se_lc (own := [("_law_k", 22)]) ⟨c.ft, c.nd, (si_rng1 rfl B.range (sa_cons (se_div (se_mul c (sv 2) (se_sub (sv 2) se_int)) se_int) sa_nil)), (blkOk_by (own := [("_law_k", 22)]) (N := N_law) (sc := (defScope (top 63))) (by decide +kernel)), fun _ _ _ _ _ => (pg_name (i := 22) c.blk.nd rfl (by first | exact Or.inl rfl | exact Or.inr rfl)), fun _ _ _ _ _ => sts_nil, fun _ _ _ _ _ => (se_call c.blk (d__law_taken h) (by decide) (sa_cons (sv 1) (sa_cons se_int sa_nil)) rfl (by decide) rfl rfl), fun _ => rfl, rfl⟩) sa_nil) rfl B.tuple rfl) sa_nil))))
 (ss_cons (ss_tupd c.ft.calm (sa_cons (se_call c (d__law_groupings h) (by decide) (sa_cons (sv 2) sa_nil) rfl (by decide) rfl rfl) (sa_cons (se_call c (d__law_steps h) (by decide) (sa_cons (sv 2) sa_nil) rfl (by decide) rfl rfl) sa_nil)) (pgs_cons (pg_name (i := 6) c.nd rfl (by first | exact Or.inl rfl | exact Or.inr rfl)) (pgs_cons (pg_name (i := 7) c.nd rfl (by first | exact Or.inl rfl | exact Or.inr rfl)) pgs_nil)))
 (ss_cons (ss_frz 6 (ss_tupd c.ft.calm (sa_cons (se_call c (d__law_pick h) (by decide) (sa_cons (sv 1) (sa_cons (sv 6) sa_nil)) rfl (by decide) rfl rfl) (sa_cons (se_lc (own := [("_law_step_here", 15)]) ⟨c.ft, c.nd, (si_it c (se_call c (d__law_steps h) (by decide) (sa_cons (sv 2) sa_nil) rfl (by decide) rfl rfl)), (blkOk_by (own := [("_law_step_here", 15)]) (N := N_law) (sc := (defScope (top 63))) (by decide +kernel)), fun _ _ _ _ _ => (pg_name (i := 15) c.blk.nd rfl (by first | exact Or.inl rfl | exact Or.inr rfl)), fun _ _ _ _ _ => (sts_one (st_cmp (op_eqD c.blk.u64) opr_eq (se_len0 c.blk (sa_cons (sv 15) sa_nil) rfl B.len rfl) se_int (nomark _))), fun _ _ _ _ _ => (sv 15), fun _ => rfl, rfl⟩) sa_nil)) (pgs_cons (pg_name (i := 8) c.nd rfl (by first | exact Or.inl rfl | exact Or.inr rfl)) (pgs_cons (pg_name (i := 9) c.nd rfl (by first | exact Or.inl rfl | exact Or.inr rfl)) pgs_nil))))
 (ss_cons (ss_set c.nd rfl (by first | exact Or.inl rfl | exact Or.inr rfl) (se_dict0 c (sa_cons (se_lc (own := [("_law_step_here", 15)]) ⟨c.ft, c.nd, (si_it c (sv 7)), (blkOk_by (own := [("_law_step_here", 15)]) (N := N_law) (sc := (defScope (top 63))) (by decide +kernel)), fun _ _ _ _ _ => (pg_name (i := 15) c.blk.nd rfl (by first | exact Or.inl rfl | exact Or.inr rfl)), fun _ _ _ _ _ => sts_nil, fun _ _ _ _ _ => (se_tup (sa_cons (sv 15) (sa_cons (se_if (st_cmp (op_eqD c.blk.u64) opr_eq (se_len0 c.blk (sa_cons (sv 15) sa_nil) rfl B.len rfl) se_int (nomark _)) (se_at c.blk (se_at c.blk (sv 5) se_int) (se_at c.blk (sv 15) se_int)) (se_at c.blk (se_at c.blk (sv 5) se_int) (se_index c.blk (sv 9) (sv 15) rfl rfl rfl rfl rfl))) sa_nil))), fun _ => rfl, rfl⟩) sa_nil) rfl B.dict rfl))
 (ss_cons (ss_tupd c.ft.calm (sa_cons (se_d1 c.ft c.u8 (sv 8) se_int) (sa_cons (se_lst (sa_cons (sv 8) sa_nil)) sa_nil)) (pgs_cons (pg_name (i := 11) c.nd rfl (by first | exact Or.inl rfl | exact Or.inr rfl)) (pgs_cons (pg_name (i := 12) c.nd rfl (by first | exact Or.inl rfl | exact Or.inr rfl)) pgs_nil)))
 (ss_cons (ss_while 10000 PassesOwn.never (st_cmp (op_neD c.u64) opr_ne (sv 12) (se_lst sa_nil) (nomark _))
 (ss_cons (ss_set c.nd rfl (by first | exact Or.inl rfl | exact Or.inr rfl) (se_lst sa_nil))
 (ss_cons (ss_frz 12 (ss_for PassesOwn.never c.ft (si_it c (sv 12)) (pg_name (i := 14) c.nd rfl (by first | exact Or.inl rfl | exact Or.inr rfl))
 (ss_one (ss_frz 7 (ss_for PassesOwn.never c.ft (si_it c (sv 7)) (pg_name (i := 15) c.nd rfl (by first | exact Or.inl rfl | exact Or.inr rfl))
 (ss_cons (ss_set c.nd rfl (by first | exact Or.inl rfl | exact Or.inr rfl) (se_call c (d__law_step h) (by decide) (sa_cons (sv 14) (sa_cons (sv 15) sa_nil)) rfl (by decide) rfl rfl))
 (ss_one (ss_if (st_w (sw_or (st_cmp (op_ninA c) (opr_inA c) (sv 16) (sv 11) rfl) (sw_or1 (st_cmp (op_ltA c) (opr_ltA c) (se_add c (se_at c (sv 11) (sv 14)) (se_at c (sv 10) (sv 15))) (se_at c (sv 11) (sv 16)) (nomark _)))))
 (ss_cons (ss_stoT c (pv 11) (sv 16) (se_add c (se_at c (sv 11) (sv 14)) (se_at c (sv 10) (sv 15))))
 (ss_one (ss_append 13 c (pv 13) (sv 16) rfl rfl rfl rfl rfl rfl)))
 ss_nil))) (fun _ => rfl)))) (fun _ => rfl)))
 (ss_one (ss_frz 13 (ss_set c.nd rfl (by first | exact Or.inl rfl | exact Or.inr rfl) (sv 13)))))))
 (ss_cons (ss_set c.nd rfl (by first | exact Or.inl rfl | exact Or.inr rfl) (se_max0 c (sa_cons (se_lc (own := [("_law_there", 16)]) ⟨c.ft, c.nd, (si_it c (sv 11)), (blkOk_by (own := [("_law_there", 16)]) (N := N_law) (sc := (defScope (top 63))) (by decide +kernel)), fun _ _ _ _ _ => (pg_name (i := 16) c.blk.nd rfl (by first | exact Or.inl rfl | exact Or.inr rfl)), fun _ _ _ _ _ => sts_nil, fun _ _ _ _ _ => (se_sub (se_call c.blk (d__law_worth h) (by decide) (sa_cons (sv 16) (sa_cons (sv 4) sa_nil)) rfl (by decide) rfl rfl) (se_at c.blk (sv 11) (sv 16))), fun _ => rfl, rfl⟩) sa_nil) rfl B.max rfl))
 (ss_cons (ss_set c.nd rfl (by first | exact Or.inl rfl | exact Or.inr rfl) (se_call c (d_best_net h) (by decide) (sa_cons (sv 8) (sa_cons (sv 4) (sa_cons (sv 5) sa_nil))) rfl (by decide) rfl rfl))
 (ss_cons (ss_set c.nd rfl (by first | exact Or.inl rfl | exact Or.inr rfl) (se_at c (sv 18) se_int))
 (ss_cons (ss_for PassesOwn.never c.ft (si_it c (se_lst (sa_cons (sv 18) (sa_cons (se_list0 c (sa_cons (sv 18) sa_nil) rfl B.list rfl) (sa_cons (se_tup (sa_cons (sv 17) (sa_cons (se_list0 c (sa_cons (sv 19) sa_nil) rfl B.list rfl) sa_nil))) (sa_cons (se_tup (sa_cons (se_add c (sv 17) se_int) (sa_cons (sv 19) sa_nil))) (sa_cons (se_tup (sa_cons (sv 17) (sa_cons (se_slT (x1 := ⟨0, 0, 0, 0⟩) c.ft (sv 19) (so_some se_int) so_none) sa_nil))) (sa_cons (se_tup (sa_cons (sv 17) (sa_cons (se_tup sa_nil) sa_nil))) (sa_cons se_non (sa_cons se_int (sa_cons (se_tup (sa_cons (sv 17) (sa_cons (se_call c (d__law_row h) (by decide) (sa_cons (sv 1) (sa_cons (sv 2) (sa_cons se_int sa_nil))) rfl (by decide) rfl rfl) sa_nil))) (sa_cons (se_tup (sa_cons (sv 17) (sa_cons (se_tup (sa_cons (se_tup (sa_cons (sv 2) sa_nil)) sa_nil)) sa_nil))) sa_nil)))))))))))) (pg_name (i := 20) c.nd rfl (by first | exact Or.inl rfl | exact Or.inr rfl))
 (ss_cons (ss_set c.nd rfl (by first | exact Or.inl rfl | exact Or.inr rfl) (se_and (se_isTup c (sv 20) B.isinstance rfl B.tuple rfl rfl rfl) (se_and (se_cmp (op_eqD c.u64) opr_eq (se_len0 c (sa_cons (sv 20) sa_nil) rfl B.len rfl) se_int (nomark _)) (se_and (se_cmp (op_eqD c.u64) opr_eq (se_at c (sv 20) se_int) (sv 17) (nomark _)) (se_one (se_isTup c (se_at c (sv 20) se_int) B.isinstance rfl B.tuple rfl rfl rfl))))))
 (ss_cons (ss_set c.nd rfl (by first | exact Or.inl rfl | exact Or.inr rfl) (se_and (sv 21) (se_and (se_cmp op_le opr_intB (se_len0 c (sa_cons (se_at c (sv 20) se_int) sa_nil) rfl B.len rfl) se_int (nomark _)) (se_one (se_cmp (op_eqD c.u64) opr_eq (se_lc (own := [("_law_step_here", 15)]) ⟨c.ft, c.nd, (si_it c (se_at c (sv 20) se_int)), (blkOk_by (own := [("_law_step_here", 15)]) (N := N_law) (sc := (defScope (top 63))) (by decide +kernel)), fun _ _ _ _ _ => (pg_name (i := 15) c.blk.nd rfl (by first | exact Or.inl rfl | exact Or.inr rfl)), fun _ _ _ _ _ => (sts_one (st_cmp (op_ninA c.blk) (opr_inA c.blk) (sv 15) (sv 7) rfl)), fun _ _ _ _ _ => (sv 15), fun _ => rfl, rfl⟩) (se_lst sa_nil) (nomark _))))))
 (ss_cons (ss_set c.nd rfl (by first | exact Or.inl rfl | exact Or.inr rfl) (se_and (sv 21) (se_one (se_cmp (op_eqD c.u64) opr_eq (se_sub (se_call c (d__law_worth h) (by decide) (sa_cons (se_call c (d__law_done h) (by decide) (sa_cons (sv 8) (sa_cons (se_at c (sv 20) se_int) sa_nil)) rfl (by decide) rfl rfl) (sa_cons (sv 4) sa_nil)) rfl (by decide) rfl rfl) (se_sum0 c (sa_cons (se_lc (own := [("_law_step_here", 15)]) ⟨c.ft, c.nd, (si_it c (se_at c (sv 20) se_int)), (blkOk_by (own := [("_law_step_here", 15)]) (N := N_law) (sc := (defScope (top 63))) (by decide +kernel)), fun _ _ _ _ _ => (pg_name (i := 15) c.blk.nd rfl (by first | exact Or.inl rfl | exact Or.inr rfl)), fun _ _ _ _ _ => sts_nil, fun _ _ _ _ _ => (se_at c.blk (sv 10) (sv 15)), fun _ => rfl, rfl⟩) sa_nil) rfl B.sum rfl)) (sv 17) (nomark _)))))
 (ss_one (ss_if (st_not (st_val (se_call c (d__law_alike h) (by decide) (sa_cons (se_call c (d_shows_best_net h) (by decide) (sa_cons (sv 8) (sa_cons (sv 4) (sa_cons (sv 5) (sa_cons (sv 20) sa_nil)))) rfl (by decide) rfl rfl) (sa_cons (sv 21) sa_nil)) rfl (by decide) rfl rfl)))
 (ss_one (ss_ret se_bl))
 ss_nil))))) (fun _ => rfl))
 (ss_cons (ss_if (st_cmp op_notBl opr_isNB (se_call c (d_shows_best_net h) (by decide) (sa_cons (sv 8) (sa_cons (sv 4) (sa_cons (sv 5) (sa_cons (sv 18) sa_nil)))) rfl (by decide) rfl rfl) se_bl (nomark _))
 (ss_one (ss_ret se_bl))
 ss_nil)
 (ss_one (ss_frz 10 (ss_ret (se_call c (d__law_stays h) (by decide) (sa_cons (sv 8) (sa_cons (sv 4) (sa_cons (sv 5) (sa_cons (sv 10) (sa_cons (sv 3) (sa_cons (sv 1) sa_nil)))))) rfl (by decide) rfl rfl)))))))))))))))))
end GD
/-! Jg -/
set_option maxHeartbeats 4000000
/-! Jg: the head's facts, the law over its mirror. -/
namespace GD
open PySem PySem.Spec PyProof.Rows L2
theorem df_plain {K : PySem.W.Frag} {mg : Str → Option Value} {base : Heap} {tabs : List Addr} {x : Str} {st : Stmt} (X : K.In base) (Gm : base.Ns mainGlobals mg) (c : ∃ fd, FunD K x x (defArgs st) (defBody st) (defScope st) [] [] (He.fAd K (x, none)) fd) (g : (He.Fa.glo x).ok K = true) {b : Bool} (hb : b = false) : Df K mg base tabs x st b := by
  obtain ⟨fd, F⟩ := c
  obtain ⟨oc, od, dV, kV, doc, pm, an, cdv, ct, osl, rfl, lk, hcd, h4, h5⟩ := F.ex
  obtain ⟨cc, rfl⟩ := He.codeIn_ref hcd
  exact ⟨_, _, cc, ⟨⟨oc, od, dV, kV, doc, pm, an, _, ct, osl, rfl, lk, hcd, h4, h5⟩, F.kp⟩, He.glo_ok X Gm g, rfl, fun q => by rw [hb] at q; cases q⟩
theorem df_gen {K : PySem.W.Frag} {mg : Str → Option Value} {base : Heap} {x : Str} {st : Stmt} {tf : List He.Defn} (X : K.In base) (Gm : base.Ns mainGlobals mg) (c : ∃ fd, FunD K x x (defArgs st) (defBody st) (defScope st) [] [] (He.fAd K (x, none)) fd) (g : (He.Fa.glo x).ok K = true) {p : He.Defn} (hp : p ∈ tf) (hpx : p = (x, none))
    (hg : ∀ p ∈ tf, GxR.TabB base mg (He.cT K p).1 (He.cT K p).2) {b : Bool} : Df K mg base (tf.map fun p => (He.cT K p).2) x st b := by
  obtain ⟨fd, F⟩ := c
  obtain ⟨oc, od, dV, kV, doc, pm, an, cdv, ct, osl, rfl, lk, hcd, h4, h5⟩ := F.ex
  obtain ⟨cc, rfl⟩ := He.codeIn_ref hcd
  subst hpx
  have e : He.codeOf K (x, none) = cc := He.codeOf_eq lk rfl
  have t := hg _ hp
  refine ⟨_, _, cc, ⟨⟨oc, od, dV, kV, doc, pm, an, _, ct, osl, rfl, lk, hcd, h4, h5⟩, F.kp⟩, He.glo_ok X Gm g, rfl, fun _ => ⟨(He.cT K (x, none)).2, ?_, List.mem_map.mpr ⟨_, hp, rfl⟩⟩⟩
  have e2 : (He.cT K (x, none)).1 = cc := e
  rw [e2] at t
  exact t
def loose0 : List Str := ["GroupError", "BadGrouping", "BadCount", "BadPrices", "BadLikings", "MOST_PEOPLE", "MOST_ROW", "is_in", "is_lot", "is_grouping", "size_of", "need_grouping", "all_groupings", "is_step", "lot_with", "joined", "left", "stepped", "are_steps", "is_row", "trace", "all_steps", "MOST_LIKING", "pairs_of", "are_likings", "need_likings", "worth_of", "MOST_PRICE", "MOST_CHEAP", "are_prices"]
def loose1 : List Str := ["need_prices", "price_table", "price_of", "MOST_TURNS", "rows_from", "need_net", "net_of", "best_net", "shows_best_net", "tables", "need_stay", "best_stay", "shows_best_stay", "stay_worths", "_law_taken", "_law_pick", "_law_alike", "_law_lots", "_law_labels", "_law_grouping", "_law_step", "_law_done", "_law_steps", "_law_row", "_law_groupings", "_law_worth", "_law_stays"]
def loose : List Str := loose0 ++ (loose1)
def fn0 : List He.DefD := [⟨("is_in", none), "is_in", "is_in", defArgs (top 9), defBody (top 9), defScope (top 9), [], []⟩,
  ⟨("is_lot", none), "is_lot", "is_lot", defArgs (top 10), defBody (top 10), defScope (top 10), [], []⟩,
  ⟨("is_grouping", none), "is_grouping", "is_grouping", defArgs (top 11), defBody (top 11), defScope (top 11), [], []⟩,
  ⟨("size_of", none), "size_of", "size_of", defArgs (top 12), defBody (top 12), defScope (top 12), [], []⟩,
  ⟨("need_grouping", none), "need_grouping", "need_grouping", defArgs (top 13), defBody (top 13), defScope (top 13), [], []⟩,
  ⟨("all_groupings", none), "all_groupings", "all_groupings", defArgs (top 14), defBody (top 14), defScope (top 14), [], []⟩,
  ⟨("is_step", none), "is_step", "is_step", defArgs (top 15), defBody (top 15), defScope (top 15), [], []⟩,
  ⟨("lot_with", none), "lot_with", "lot_with", defArgs (top 16), defBody (top 16), defScope (top 16), [], []⟩,
  ⟨("joined", none), "joined", "joined", defArgs (top 17), defBody (top 17), defScope (top 17), [], []⟩,
  ⟨("left", none), "left", "left", defArgs (top 18), defBody (top 18), defScope (top 18), [], []⟩,
  ⟨("stepped", none), "stepped", "stepped", defArgs (top 19), defBody (top 19), defScope (top 19), [], []⟩,
  ⟨("are_steps", none), "are_steps", "are_steps", defArgs (top 20), defBody (top 20), defScope (top 20), [], []⟩,
  ⟨("is_row", none), "is_row", "is_row", defArgs (top 21), defBody (top 21), defScope (top 21), [], []⟩,
  ⟨("trace", none), "trace", "trace", defArgs (top 22), defBody (top 22), defScope (top 22), [], []⟩,
  ⟨("all_steps", none), "all_steps", "all_steps", defArgs (top 23), defBody (top 23), defScope (top 23), [], []⟩,
  ⟨("pairs_of", none), "pairs_of", "pairs_of", defArgs (top 26), defBody (top 26), defScope (top 26), [], []⟩,
  ⟨("are_likings", none), "are_likings", "are_likings", defArgs (top 27), defBody (top 27), defScope (top 27), [], []⟩,
  ⟨("need_likings", none), "need_likings", "need_likings", defArgs (top 28), defBody (top 28), defScope (top 28), [], []⟩,
  ⟨("worth_of", none), "worth_of", "worth_of", defArgs (top 29), defBody (top 29), defScope (top 29), [], []⟩,
  ⟨("are_prices", none), "are_prices", "are_prices", defArgs (top 33), defBody (top 33), defScope (top 33), [], []⟩]
def fn1 : List He.DefD := [⟨("need_prices", none), "need_prices", "need_prices", defArgs (top 34), defBody (top 34), defScope (top 34), [], []⟩,
  ⟨("price_table", none), "price_table", "price_table", defArgs (top 35), defBody (top 35), defScope (top 35), [], []⟩,
  ⟨("price_of", none), "price_of", "price_of", defArgs (top 36), defBody (top 36), defScope (top 36), [], []⟩,
  ⟨("rows_from", none), "rows_from", "rows_from", defArgs (top 39), defBody (top 39), defScope (top 39), [], []⟩,
  ⟨("need_net", none), "need_net", "need_net", defArgs (top 40), defBody (top 40), defScope (top 40), [], []⟩,
  ⟨("net_of", none), "net_of", "net_of", defArgs (top 41), defBody (top 41), defScope (top 41), [], []⟩,
  ⟨("best_net", none), "best_net", "best_net", defArgs (top 42), defBody (top 42), defScope (top 42), [], []⟩,
  ⟨("shows_best_net", none), "shows_best_net", "shows_best_net", defArgs (top 43), defBody (top 43), defScope (top 43), [], []⟩,
  ⟨("tables", none), "tables", "tables", defArgs (top 44), defBody (top 44), defScope (top 44), [], []⟩,
  ⟨("need_stay", none), "need_stay", "need_stay", defArgs (top 45), defBody (top 45), defScope (top 45), [], []⟩,
  ⟨("best_stay", none), "best_stay", "best_stay", defArgs (top 46), defBody (top 46), defScope (top 46), [], []⟩,
  ⟨("shows_best_stay", none), "shows_best_stay", "shows_best_stay", defArgs (top 47), defBody (top 47), defScope (top 47), [], []⟩,
  ⟨("stay_worths", none), "stay_worths", "stay_worths", defArgs (top 48), defBody (top 48), defScope (top 48), [], []⟩,
  ⟨("_law_taken", none), "_law_taken", "_law_taken", defArgs (top 50), defBody (top 50), defScope (top 50), [], []⟩,
  ⟨("_law_pick", none), "_law_pick", "_law_pick", defArgs (top 51), defBody (top 51), defScope (top 51), [], []⟩,
  ⟨("_law_alike", none), "_law_alike", "_law_alike", defArgs (top 52), defBody (top 52), defScope (top 52), [], []⟩,
  ⟨("_law_lots", none), "_law_lots", "_law_lots", defArgs (top 53), defBody (top 53), defScope (top 53), [], []⟩,
  ⟨("_law_labels", none), "_law_labels", "_law_labels", defArgs (top 54), defBody (top 54), defScope (top 54), [], []⟩,
  ⟨("_law_step", none), "_law_step", "_law_step", defArgs (top 56), defBody (top 56), defScope (top 56), [], []⟩,
  ⟨("_law_done", none), "_law_done", "_law_done", defArgs (top 57), defBody (top 57), defScope (top 57), [], []⟩]
def fn2 : List He.DefD := [⟨("_law_steps", none), "_law_steps", "_law_steps", defArgs (top 58), defBody (top 58), defScope (top 58), [], []⟩,
  ⟨("_law_row", none), "_law_row", "_law_row", defArgs (top 59), defBody (top 59), defScope (top 59), [], []⟩,
  ⟨("_law_groupings", none), "_law_groupings", "_law_groupings", defArgs (top 60), defBody (top 60), defScope (top 60), [], []⟩,
  ⟨("_law_worth", none), "_law_worth", "_law_worth", defArgs (top 61), defBody (top 61), defScope (top 61), [], []⟩,
  ⟨("_law_stays", none), "_law_stays", "_law_stays", defArgs (top 62), defBody (top 62), defScope (top 62), [], []⟩,
  ⟨("law", none), "law", "law", defArgs (top 63), defBody (top 63), defScope (top 63), [], []⟩]
def fn : List He.DefD := fn0 ++ (fn1 ++ (fn2))
def fa0 : List He.Fa := [.glo "is_in", .glo "is_lot", .glo "is_grouping", .glo "size_of", .glo "need_grouping", .glo "all_groupings", .glo "is_step", .glo "lot_with", .glo "joined", .glo "left", .glo "stepped", .glo "are_steps", .glo "is_row", .glo "trace", .glo "all_steps", .glo "pairs_of", .glo "are_likings", .glo "need_likings", .glo "worth_of", .glo "are_prices", .glo "need_prices", .glo "price_table", .glo "price_of", .glo "rows_from", .glo "need_net"]
def fa1 : List He.Fa := [.glo "net_of", .glo "best_net", .glo "shows_best_net", .glo "tables", .glo "need_stay", .glo "best_stay", .glo "shows_best_stay", .glo "stay_worths", .glo "_law_taken", .glo "_law_pick", .glo "_law_alike", .glo "_law_lots", .glo "_law_labels", .glo "_law_step", .glo "_law_done", .glo "_law_steps", .glo "_law_row", .glo "_law_groupings", .glo "_law_worth", .glo "_law_stays", .glo "law"]
def fa2 : List He.Fa := [.free "len", .free "int", .free "bool", .free "tuple", .free "list", .free "str", .free "dict", .free "set", .free "sum", .free "max", .free "all", .free "any", .free "sorted", .free "range", .free "enumerate", .free "zip", .free "isinstance", .int "MOST_CHEAP" 300, .int "MOST_LIKING" 100, .int "MOST_PEOPLE" 6, .int "MOST_PRICE" 1000, .int "MOST_ROW" 40, .int "MOST_TURNS" 8]
def fa : List He.Fa := fa0 ++ (fa1 ++ fa2)
def tf : List He.Defn := [("is_lot", none), ("is_grouping", none), ("size_of", none), ("are_steps", none), ("are_likings", none), ("worth_of", none), ("are_prices", none), ("price_of", none)]
theorem hd_of {K : PySem.W.Frag} {mg : Str → Option Value} {base : Heap} (X : K.In base) (Gm : base.Ns mainGlobals mg) (c : He.SaysD fa fn K) (hg : ∀ p ∈ tf, GxR.TabB base mg (He.cT K p).1 (He.cT K p).2) : Hd K mg base (tf.map fun p => (He.cT K p).2) where
  nm := ⟨He.free_ok X Gm (c.fact 46 (f := .free "len") rfl), He.free_ok X Gm (c.fact 47 (f := .free "int") rfl), He.free_ok X Gm (c.fact 48 (f := .free "bool") rfl), He.free_ok X Gm (c.fact 49 (f := .free "tuple") rfl), He.free_ok X Gm (c.fact 50 (f := .free "list") rfl), He.free_ok X Gm (c.fact 51 (f := .free "str") rfl), He.free_ok X Gm (c.fact 52 (f := .free "dict") rfl), He.free_ok X Gm (c.fact 53 (f := .free "set") rfl), He.free_ok X Gm (c.fact 54 (f := .free "sum") rfl), He.free_ok X Gm (c.fact 55 (f := .free "max") rfl), He.free_ok X Gm (c.fact 56 (f := .free "all") rfl), He.free_ok X Gm (c.fact 57 (f := .free "any") rfl), He.free_ok X Gm (c.fact 58 (f := .free "sorted") rfl), He.free_ok X Gm (c.fact 59 (f := .free "range") rfl), He.free_ok X Gm (c.fact 60 (f := .free "enumerate") rfl), He.free_ok X Gm (c.fact 61 (f := .free "zip") rfl), He.free_ok X Gm (c.fact 62 (f := .free "isinstance") rfl)⟩
  int_MOST_CHEAP := He.int_ok X Gm (c.fact 63 (f := .int "MOST_CHEAP" 300) rfl)
  int_MOST_LIKING := He.int_ok X Gm (c.fact 64 (f := .int "MOST_LIKING" 100) rfl)
  int_MOST_PEOPLE := He.int_ok X Gm (c.fact 65 (f := .int "MOST_PEOPLE" 6) rfl)
  int_MOST_PRICE := He.int_ok X Gm (c.fact 66 (f := .int "MOST_PRICE" 1000) rfl)
  int_MOST_ROW := He.int_ok X Gm (c.fact 67 (f := .int "MOST_ROW" 40) rfl)
  int_MOST_TURNS := He.int_ok X Gm (c.fact 68 (f := .int "MOST_TURNS" 8) rfl)
  d_is_in := df_plain X Gm (c.def_ 0 (d := ⟨("is_in", none), "is_in", "is_in", defArgs (top 9), defBody (top 9), defScope (top 9), [], []⟩) rfl) (c.fact 0 (f := .glo "is_in") rfl) rfl
  d_is_lot := df_gen X Gm (c.def_ 1 (d := ⟨("is_lot", none), "is_lot", "is_lot", defArgs (top 10), defBody (top 10), defScope (top 10), [], []⟩) rfl) (c.fact 1 (f := .glo "is_lot") rfl) (p := ("is_lot", none)) (show (("is_lot" : Str), (none : Option Str)) ∈ tf by decide +kernel) rfl hg
  d_is_grouping := df_gen X Gm (c.def_ 2 (d := ⟨("is_grouping", none), "is_grouping", "is_grouping", defArgs (top 11), defBody (top 11), defScope (top 11), [], []⟩) rfl) (c.fact 2 (f := .glo "is_grouping") rfl) (p := ("is_grouping", none)) (show (("is_grouping" : Str), (none : Option Str)) ∈ tf by decide +kernel) rfl hg
  d_size_of := df_gen X Gm (c.def_ 3 (d := ⟨("size_of", none), "size_of", "size_of", defArgs (top 12), defBody (top 12), defScope (top 12), [], []⟩) rfl) (c.fact 3 (f := .glo "size_of") rfl) (p := ("size_of", none)) (show (("size_of" : Str), (none : Option Str)) ∈ tf by decide +kernel) rfl hg
  d_need_grouping := df_plain X Gm (c.def_ 4 (d := ⟨("need_grouping", none), "need_grouping", "need_grouping", defArgs (top 13), defBody (top 13), defScope (top 13), [], []⟩) rfl) (c.fact 4 (f := .glo "need_grouping") rfl) rfl
  d_all_groupings := df_plain X Gm (c.def_ 5 (d := ⟨("all_groupings", none), "all_groupings", "all_groupings", defArgs (top 14), defBody (top 14), defScope (top 14), [], []⟩) rfl) (c.fact 5 (f := .glo "all_groupings") rfl) rfl
  d_is_step := df_plain X Gm (c.def_ 6 (d := ⟨("is_step", none), "is_step", "is_step", defArgs (top 15), defBody (top 15), defScope (top 15), [], []⟩) rfl) (c.fact 6 (f := .glo "is_step") rfl) rfl
  d_lot_with := df_plain X Gm (c.def_ 7 (d := ⟨("lot_with", none), "lot_with", "lot_with", defArgs (top 16), defBody (top 16), defScope (top 16), [], []⟩) rfl) (c.fact 7 (f := .glo "lot_with") rfl) rfl
  d_joined := df_plain X Gm (c.def_ 8 (d := ⟨("joined", none), "joined", "joined", defArgs (top 17), defBody (top 17), defScope (top 17), [], []⟩) rfl) (c.fact 8 (f := .glo "joined") rfl) rfl
  d_left := df_plain X Gm (c.def_ 9 (d := ⟨("left", none), "left", "left", defArgs (top 18), defBody (top 18), defScope (top 18), [], []⟩) rfl) (c.fact 9 (f := .glo "left") rfl) rfl
  d_stepped := df_plain X Gm (c.def_ 10 (d := ⟨("stepped", none), "stepped", "stepped", defArgs (top 19), defBody (top 19), defScope (top 19), [], []⟩) rfl) (c.fact 10 (f := .glo "stepped") rfl) rfl
  d_are_steps := df_gen X Gm (c.def_ 11 (d := ⟨("are_steps", none), "are_steps", "are_steps", defArgs (top 20), defBody (top 20), defScope (top 20), [], []⟩) rfl) (c.fact 11 (f := .glo "are_steps") rfl) (p := ("are_steps", none)) (show (("are_steps" : Str), (none : Option Str)) ∈ tf by decide +kernel) rfl hg
  d_is_row := df_plain X Gm (c.def_ 12 (d := ⟨("is_row", none), "is_row", "is_row", defArgs (top 21), defBody (top 21), defScope (top 21), [], []⟩) rfl) (c.fact 12 (f := .glo "is_row") rfl) rfl
  d_trace := df_plain X Gm (c.def_ 13 (d := ⟨("trace", none), "trace", "trace", defArgs (top 22), defBody (top 22), defScope (top 22), [], []⟩) rfl) (c.fact 13 (f := .glo "trace") rfl) rfl
  d_all_steps := df_plain X Gm (c.def_ 14 (d := ⟨("all_steps", none), "all_steps", "all_steps", defArgs (top 23), defBody (top 23), defScope (top 23), [], []⟩) rfl) (c.fact 14 (f := .glo "all_steps") rfl) rfl
  d_pairs_of := df_plain X Gm (c.def_ 15 (d := ⟨("pairs_of", none), "pairs_of", "pairs_of", defArgs (top 26), defBody (top 26), defScope (top 26), [], []⟩) rfl) (c.fact 15 (f := .glo "pairs_of") rfl) rfl
  d_are_likings := df_gen X Gm (c.def_ 16 (d := ⟨("are_likings", none), "are_likings", "are_likings", defArgs (top 27), defBody (top 27), defScope (top 27), [], []⟩) rfl) (c.fact 16 (f := .glo "are_likings") rfl) (p := ("are_likings", none)) (show (("are_likings" : Str), (none : Option Str)) ∈ tf by decide +kernel) rfl hg
  d_need_likings := df_plain X Gm (c.def_ 17 (d := ⟨("need_likings", none), "need_likings", "need_likings", defArgs (top 28), defBody (top 28), defScope (top 28), [], []⟩) rfl) (c.fact 17 (f := .glo "need_likings") rfl) rfl
  d_worth_of := df_gen X Gm (c.def_ 18 (d := ⟨("worth_of", none), "worth_of", "worth_of", defArgs (top 29), defBody (top 29), defScope (top 29), [], []⟩) rfl) (c.fact 18 (f := .glo "worth_of") rfl) (p := ("worth_of", none)) (show (("worth_of" : Str), (none : Option Str)) ∈ tf by decide +kernel) rfl hg
  d_are_prices := df_gen X Gm (c.def_ 19 (d := ⟨("are_prices", none), "are_prices", "are_prices", defArgs (top 33), defBody (top 33), defScope (top 33), [], []⟩) rfl) (c.fact 19 (f := .glo "are_prices") rfl) (p := ("are_prices", none)) (show (("are_prices" : Str), (none : Option Str)) ∈ tf by decide +kernel) rfl hg
  d_need_prices := df_plain X Gm (c.def_ 20 (d := ⟨("need_prices", none), "need_prices", "need_prices", defArgs (top 34), defBody (top 34), defScope (top 34), [], []⟩) rfl) (c.fact 20 (f := .glo "need_prices") rfl) rfl
  d_price_table := df_plain X Gm (c.def_ 21 (d := ⟨("price_table", none), "price_table", "price_table", defArgs (top 35), defBody (top 35), defScope (top 35), [], []⟩) rfl) (c.fact 21 (f := .glo "price_table") rfl) rfl
  d_price_of := df_gen X Gm (c.def_ 22 (d := ⟨("price_of", none), "price_of", "price_of", defArgs (top 36), defBody (top 36), defScope (top 36), [], []⟩) rfl) (c.fact 22 (f := .glo "price_of") rfl) (p := ("price_of", none)) (show (("price_of" : Str), (none : Option Str)) ∈ tf by decide +kernel) rfl hg
  d_rows_from := df_plain X Gm (c.def_ 23 (d := ⟨("rows_from", none), "rows_from", "rows_from", defArgs (top 39), defBody (top 39), defScope (top 39), [], []⟩) rfl) (c.fact 23 (f := .glo "rows_from") rfl) rfl
  d_need_net := df_plain X Gm (c.def_ 24 (d := ⟨("need_net", none), "need_net", "need_net", defArgs (top 40), defBody (top 40), defScope (top 40), [], []⟩) rfl) (c.fact 24 (f := .glo "need_net") rfl) rfl
  d_net_of := df_plain X Gm (c.def_ 25 (d := ⟨("net_of", none), "net_of", "net_of", defArgs (top 41), defBody (top 41), defScope (top 41), [], []⟩) rfl) (c.fact 25 (f := .glo "net_of") rfl) rfl
  d_best_net := df_plain X Gm (c.def_ 26 (d := ⟨("best_net", none), "best_net", "best_net", defArgs (top 42), defBody (top 42), defScope (top 42), [], []⟩) rfl) (c.fact 26 (f := .glo "best_net") rfl) rfl
  d_shows_best_net := df_plain X Gm (c.def_ 27 (d := ⟨("shows_best_net", none), "shows_best_net", "shows_best_net", defArgs (top 43), defBody (top 43), defScope (top 43), [], []⟩) rfl) (c.fact 27 (f := .glo "shows_best_net") rfl) rfl
  d_tables := df_plain X Gm (c.def_ 28 (d := ⟨("tables", none), "tables", "tables", defArgs (top 44), defBody (top 44), defScope (top 44), [], []⟩) rfl) (c.fact 28 (f := .glo "tables") rfl) rfl
  d_need_stay := df_plain X Gm (c.def_ 29 (d := ⟨("need_stay", none), "need_stay", "need_stay", defArgs (top 45), defBody (top 45), defScope (top 45), [], []⟩) rfl) (c.fact 29 (f := .glo "need_stay") rfl) rfl
  d_best_stay := df_plain X Gm (c.def_ 30 (d := ⟨("best_stay", none), "best_stay", "best_stay", defArgs (top 46), defBody (top 46), defScope (top 46), [], []⟩) rfl) (c.fact 30 (f := .glo "best_stay") rfl) rfl
  d_shows_best_stay := df_plain X Gm (c.def_ 31 (d := ⟨("shows_best_stay", none), "shows_best_stay", "shows_best_stay", defArgs (top 47), defBody (top 47), defScope (top 47), [], []⟩) rfl) (c.fact 31 (f := .glo "shows_best_stay") rfl) rfl
  d_stay_worths := df_plain X Gm (c.def_ 32 (d := ⟨("stay_worths", none), "stay_worths", "stay_worths", defArgs (top 48), defBody (top 48), defScope (top 48), [], []⟩) rfl) (c.fact 32 (f := .glo "stay_worths") rfl) rfl
  d__law_taken := df_plain X Gm (c.def_ 33 (d := ⟨("_law_taken", none), "_law_taken", "_law_taken", defArgs (top 50), defBody (top 50), defScope (top 50), [], []⟩) rfl) (c.fact 33 (f := .glo "_law_taken") rfl) rfl
  d__law_pick := df_plain X Gm (c.def_ 34 (d := ⟨("_law_pick", none), "_law_pick", "_law_pick", defArgs (top 51), defBody (top 51), defScope (top 51), [], []⟩) rfl) (c.fact 34 (f := .glo "_law_pick") rfl) rfl
  d__law_alike := df_plain X Gm (c.def_ 35 (d := ⟨("_law_alike", none), "_law_alike", "_law_alike", defArgs (top 52), defBody (top 52), defScope (top 52), [], []⟩) rfl) (c.fact 35 (f := .glo "_law_alike") rfl) rfl
  d__law_lots := df_plain X Gm (c.def_ 36 (d := ⟨("_law_lots", none), "_law_lots", "_law_lots", defArgs (top 53), defBody (top 53), defScope (top 53), [], []⟩) rfl) (c.fact 36 (f := .glo "_law_lots") rfl) rfl
  d__law_labels := df_plain X Gm (c.def_ 37 (d := ⟨("_law_labels", none), "_law_labels", "_law_labels", defArgs (top 54), defBody (top 54), defScope (top 54), [], []⟩) rfl) (c.fact 37 (f := .glo "_law_labels") rfl) rfl
  d__law_step := df_plain X Gm (c.def_ 38 (d := ⟨("_law_step", none), "_law_step", "_law_step", defArgs (top 56), defBody (top 56), defScope (top 56), [], []⟩) rfl) (c.fact 38 (f := .glo "_law_step") rfl) rfl
  d__law_done := df_plain X Gm (c.def_ 39 (d := ⟨("_law_done", none), "_law_done", "_law_done", defArgs (top 57), defBody (top 57), defScope (top 57), [], []⟩) rfl) (c.fact 39 (f := .glo "_law_done") rfl) rfl
  d__law_steps := df_plain X Gm (c.def_ 40 (d := ⟨("_law_steps", none), "_law_steps", "_law_steps", defArgs (top 58), defBody (top 58), defScope (top 58), [], []⟩) rfl) (c.fact 40 (f := .glo "_law_steps") rfl) rfl
  d__law_row := df_plain X Gm (c.def_ 41 (d := ⟨("_law_row", none), "_law_row", "_law_row", defArgs (top 59), defBody (top 59), defScope (top 59), [], []⟩) rfl) (c.fact 41 (f := .glo "_law_row") rfl) rfl
  d__law_groupings := df_plain X Gm (c.def_ 42 (d := ⟨("_law_groupings", none), "_law_groupings", "_law_groupings", defArgs (top 60), defBody (top 60), defScope (top 60), [], []⟩) rfl) (c.fact 42 (f := .glo "_law_groupings") rfl) rfl
  d__law_worth := df_plain X Gm (c.def_ 43 (d := ⟨("_law_worth", none), "_law_worth", "_law_worth", defArgs (top 61), defBody (top 61), defScope (top 61), [], []⟩) rfl) (c.fact 43 (f := .glo "_law_worth") rfl) rfl
  d__law_stays := df_plain X Gm (c.def_ 44 (d := ⟨("_law_stays", none), "_law_stays", "_law_stays", defArgs (top 62), defBody (top 62), defScope (top 62), [], []⟩) rfl) (c.fact 44 (f := .glo "_law_stays") rfl) rfl
/-! ### the law -/
def spLaw (K : PySem.W.Frag) (tabs : List Addr) : Sp := fun vs H Q _ => ∃ (a : Addr) (ns : List Int), vs = [.ref a] ∧ SqL K H a (ns.map V.int) ∧ (∀ P ∈ tabs, H P = some (.tbl #[])) ∧ ns.length ≤ 63 ∧ ∀ H', Q (.bl true) H'
def slLaw : Sl := none :: some (.dat .row) :: List.replicate (N_law.length - 2) none
def PlainLaw : Prop := ∀ ns : List Int, ns.length ≤ 63 → ∃ r, m_law ns ⟨slLaw, ⟨0, 13616, 0⟩⟩ = some (.rt ⟨.bl true, .dat⟩, r)
theorem body_law : ∃ st, defBody (top 63) = st :: (defBody (top 63)).tail := ⟨_, rfl⟩
theorem law_ok (PL : PlainLaw) {P : Program} {w : World} {K : PySem.W.Frag} {mg : Str → Option Value} {base : Heap} {tabs : List Addr} {f : Addr} {fd : FuncData} (h : Hd K mg base tabs) (F : FunD K "law" "law" (defArgs (top 63)) (defBody (top 63)) (defScope (top 63)) [] [] f fd) :
    FnOk P w K mg base CX0 11 f fd ["_law_script"] (spLaw K tabs) := by
  obtain ⟨oc, od, dV, kV, doc, pm, an, cdv, ct, osl, rfl, lk, hcd, _, _⟩ := F.ex
  obtain ⟨c, rfl⟩ := He.codeIn_ref hcd
  refine fn_of lk hcd sc_law (fun vs H Q E h => ?_) fun A outer s H vs Q E hr hsp => ?_
  · obtain ⟨a, ns, rfl, _⟩ := h
    rfl
  · refine ⟨tSeq (tAsg (tLst (tCons (tVar 0) (tCons (tC (.int 0)) (tCons (tC (.int 13616)) (tCons (tC (.int 0)) tNil))))) (gName 1)) (fun D sg H => ∃ (G : GC) (Y : AS), G.P = P ∧ G.w = w ∧ G.K = K ∧ G.tabs = tabs ∧ rdS G Y (m_law G.ns) D sg H), PSs.nox ?_, ?_⟩
    · have rest : PSs (cxOf CX0 P w K mg base N_law "law" (defScope (top 63)) f (.ref c) A outer s H E).nox (defBody (top 63)).tail (fun D sg H => ∃ (G : GC) (Y : AS), G.P = P ∧ G.w = w ∧ G.K = K ∧ G.tabs = tabs ∧ rdS G Y (m_law G.ns) D sg H) :=
        ⟨fun pins s1 sg H1 D I ⟨G, Y, e1, e2, e3, e4, q⟩ => by
          subst e1 e2 e3 e4
          exact (b_law G Y f c A outer s H E h (nox_ct sc_law.nd hr)).run pins s1 sg H1 D I q⟩
      exact pss_cons (ps_set (i := 1) sc_law.nd rfl (by first | exact Or.inl rfl | exact Or.inr rfl) (pe_lst (pa_cons (pv 0) (pa_cons pe_int (pa_cons pe_int (pa_cons pe_int pa_nil)))))) rest
    · obtain ⟨a, ns, rfl, hS, hT, hl, hQ⟩ := hsp
      obtain ⟨r, hr⟩ := PL ns hl
      refine ⟨_, rfl, by show 4 ≤ sizeLine; decide, fun p hp => ?_⟩
      have keep : ∀ b o, H b = some o → upd H p (.lst [.ref a, .int 0, .int 13616, .int 0]) b = some o := fun b o e => by rw [upd_ne (ne_of_none e hp)]; exact e
      refine ⟨⟨P, w, K, p, a, ns, tabs⟩, fun b => H b = none ∧ b ≠ p, rfl, rfl, rfl, rfl, ?_⟩
      refine ⟨fun b => H b = none ∧ b ≠ p, [], fun _ => False, ⟨slLaw, ⟨0, 13616, 0⟩⟩, .rt ⟨.bl true, .dat⟩, r, ⟨⟨⟨fun i d e => ?_, fun i d e => ?_, fun i j d e a e1 => ?_, rfl⟩, ⟨upd_same, Same.seq keep hS, fun P hP => ⟨#[], keep _ _ (hT P hP), ?_⟩⟩, fun z => z⟩, ⟨fun b hb => ?_, fun b hb => hb, fun z => z.2 rfl, ?_⟩, fun b z => z.elim, fun q hq => by cases hq⟩, hr, fun v H' _ _ ro => ?_⟩
      · cases i with
        | zero => cases e
        | succ i =>
          cases i with
          | zero => cases e; exact ⟨_, rfl, by simp only [Rep]⟩
          | succ i =>
            have e : (List.replicate (N_law.length - 2) (none : Option SV))[i]? = some (some (.dat d)) := e
            rw [List.getElem?_replicate] at e
            split at e <;> cases e
      · exfalso
        cases i with
        | zero => cases e
        | succ i =>
          cases i with
          | zero => cases e
          | succ i =>
            have e : (List.replicate (N_law.length - 2) (none : Option SV))[i]? = some (some (.own d)) := e
            rw [List.getElem?_replicate] at e
            split at e <;> cases e
      · exfalso
        rename_i d0
        cases i with
        | zero => cases e1
        | succ i =>
          cases i with
          | zero => cases e1
          | succ i =>
            have e1 : (List.replicate (N_law.length - 2) (none : Option SV))[i]? = some (some (.own d)) := e1
            rw [List.getElem?_replicate] at e1
            split at e1 <;> cases e1
      · trivial
      · have hb : upd H p (.lst [.ref a, .int 0, .int 13616, .int 0]) b = none := hb
        by_cases hbp : b = p
        · rw [hbp, upd_same] at hb; cases hb
        · rw [upd_ne hbp] at hb; exact ⟨hb, hbp⟩
      · rcases hS with hS | hS
        · refine .inl fun z => ?_
          rcases hS with hS | ⟨o, hS⟩
          · rw [z.1] at hS; cases hS
          · rw [z.1] at hS; cases hS
        · exact .inr hS
      · have : v = .bl true := by simpa only [RetOk, Rep] using ro
        rw [this]
        exact hQ H'
/-! ### the head -/
abbrev R : PySem.W.OpenRow := PySem.W.OpenLaw.row PySem.Challenge.rw_groupdeeds_k16_whole_nets
abbrev qv : Program := PySem.W.view R.prog [63]
abbrev hk : PySem.W.Hook := He.hookX 3 fa fn [] tf (fun _ => true)
def ob (s : PySem.W.SharedT) : He.AlX := He.obsX 3 fa fn [] tf (fun _ => true) (HandSHeadRun.getT s)
theorem ob_eq (s : PySem.W.SharedT) : ob s = hk.obs s.abs := He.obsX_eq (HandSHeadRun.getT_eq s)
end GD
/-! Ka -/
set_option maxHeartbeats 4000000
/-! Ka: the plain law: what is fixed by the size; loops simulated. -/
namespace GD
open PySem L2
/-- groupings and steps by number -/
structure Gp where
  n : Nat
  B : Nat
  S : Nat
  gs : Nat → D
  st : Nat → D
  nx : Nat → Nat → Nat
structure GpOk (g : Gp) : Prop where
  nxlt : ∀ i j, i < g.B → j < g.S → g.nx i j < g.B
  b5 : g.B ≤ 5
  s6 : g.S ≤ 6
  s1 : 1 ≤ g.S
  n3 : g.n = 1 ∨ g.n = 2 ∨ g.n = 3
  bsort : isort (fun a b => decide (a ≤ b)) (List.range g.B) = List.range g.B
  step : ∀ i j r, i < g.B → j < g.S → f_stepped [g.gs i, g.st j] r = some (⟨g.gs (g.nx i j), .dat⟩, r)
  lstep : ∀ i j r, i < g.B → j < g.S → f__law_step [g.gs i, g.st j] r = some (⟨g.gs (g.nx i j), .dat⟩, r)
  gkey : ∀ i, i < g.B → keyOk (g.gs i) = true
  skey : ∀ j, j < g.S → keyOk (g.st j) = true
  gkeq : ∀ i i', i < g.B → i' < g.B → keq (g.gs i) (g.gs i') = decide (i = i')
  skeq : ∀ i i', i < g.S → i' < g.S → keq (g.st i) (g.st i') = decide (i = i')
  geq : ∀ i i', i < g.B → i' < g.B → eqD (g.gs i) (g.gs i') = decide (i = i')
  seq : ∀ i i', i < g.S → i' < g.S → eqD (g.st i) (g.st i') = decide (i = i')
  gle : ∀ i i', i < g.B → i' < g.B → leD (g.gs i) (g.gs i') = decide (i ≤ i')
  galike : ∀ i i', i < g.B → i' < g.B → PySem.W.alike (py (g.gs i)) (py (g.gs i')) = true
  gshp : ∀ i, i < g.B → shp (g.gs i) = true ∧ (py (g.gs i)).depth ≤ 8 ∧ tupNE (g.gs i) = true
  steps : ∀ r, f_all_steps [.int g.n] r = some (⟨.lst ((List.range g.S).map g.st), .new⟩, r)
  lsteps : ∀ r, f__law_steps [.int g.n] r = some (⟨.lst ((List.range g.S).map g.st), .new⟩, r)
  groups : ∀ r, f_all_groupings [.int g.n] r = some (⟨.lst ((List.range g.B).map g.gs), .new⟩, r)
  lgroups : ∀ r, f__law_groupings [.int g.n] r = some (⟨.lst ((List.range g.B).map g.gs), .new⟩, r)
  size : ∀ i r, i < g.B → f_size_of [g.gs i] r = some (⟨.int g.n, .dat⟩, r)
  labels : ∀ i r, i < g.B → ∃ l : List D, l.length = g.n ∧ f__law_labels [g.gs i] r = some (⟨.lst l, .new⟩, r)
  needg : ∀ i r, i < g.B → f_need_grouping [g.gs i] r = some (⟨.non, .dat⟩, r)
  isstep : ∀ j r, j < g.S → f_is_step [.int g.n, g.st j] r = some (⟨.bl true, .dat⟩, r)
  badstep : ∀ r, f_is_step [.int g.n, .tup [.int g.n]] r = some (⟨.bl false, .dat⟩, r)
  sshp : ∀ j, j < g.S → shp (g.st j) = true ∧ (py (g.st j)).depth ≤ 8
  badst : ∀ j, j < g.S → eqD (g.st j) (.tup [.int g.n]) = false
/-- likings and prices -/
structure Nu where
  W : Nat → Int
  pr : Nat → Int
  lk : D
  ps : D
  prm : List Nat
structure NuOk (g : Gp) (u : Nu) : Prop where
  pr0 : ∀ j, j < g.S → 0 ≤ u.pr j ∧ u.pr j ≤ 5
  worth : ∀ i r, i < g.B → f_worth_of [g.gs i, u.lk] r = some (⟨.int (u.W i), .dat⟩, r)
  lworth : ∀ i r, i < g.B → f__law_worth [g.gs i, u.lk] r = some (⟨.int (u.W i), .dat⟩, r)
  ptab : ∀ r, f_price_table [.int g.n, u.ps] r = some (⟨.dT (u.prm.map fun j => (g.st j, .int (u.pr j))), .new⟩, r)
  prm : ∀ j, j ∈ u.prm ↔ j < g.S
  pl : u.prm.length ≤ 6
  needl : ∀ r, f_need_likings [.int g.n, u.lk] r = some (⟨.non, .dat⟩, r)
  needp : ∀ r, f_need_prices [.int g.n, u.ps] r = some (⟨.non, .dat⟩, r)
  liks : ∀ (m : Nat) r, 1 ≤ m → m ≤ 6 → f_are_likings [.int m, u.lk] r = some (⟨.bl (decide (m = g.n)), .dat⟩, r)
/-! ### association lists -/
section
variable {α : Type}
def lkA (f : List (Nat × α)) (i : Nat) : Option α := (f.find? fun q => decide (q.1 = i)).map (·.2)
def putA (f : List (Nat × α)) (i : Nat) (a : α) : List (Nat × α) := if (f.any fun q => decide (q.1 = i)) = true then f.map fun q => if q.1 = i then (q.1, a) else q else f ++ [(i, a)]
theorem lkA_any {f : List (Nat × α)} {i : Nat} : (f.any fun q => decide (q.1 = i)) = (lkA f i).isSome := by
  induction f with
  | nil => rfl
  | cons q f ih =>
    by_cases h : q.1 = i
    · simp [lkA, h]
    · simp [lkA, h] at ih ⊢
      exact ih
theorem lkA_nil (i : Nat) : lkA ([] : List (Nat × α)) i = none := rfl
theorem lkA_cons (q : Nat × α) (f : List (Nat × α)) (i : Nat) : lkA (q :: f) i = if q.1 = i then some q.2 else lkA f i := by
  by_cases h : q.1 = i <;> simp [lkA, h]
theorem lkA_app (f h : List (Nat × α)) (i : Nat) : lkA (f ++ h) i = (lkA f i).or (lkA h i) := by
  induction f with
  | nil => simp [lkA_nil]
  | cons q f ih =>
    rw [List.cons_append, lkA_cons, lkA_cons, ih]
    split <;> rfl
theorem lkA_map0 (f : List (Nat × α)) (i k : Nat) (a : α) (hk : k ≠ i) : lkA (f.map fun q => if q.1 = i then (q.1, a) else q) k = lkA f k := by
  induction f with
  | nil => rfl
  | cons p f ih =>
    rw [List.map_cons, lkA_cons, lkA_cons, ih]
    by_cases hp : p.1 = i
    · have : ¬ i = k := fun z => hk z.symm
      simp [hp, this]
    · simp [hp]
theorem lkA_map1 (f : List (Nat × α)) (i : Nat) (a : α) (h : (f.any fun q => decide (q.1 = i)) = true) : lkA (f.map fun q => if q.1 = i then (q.1, a) else q) i = some a := by
  induction f with
  | nil => simp at h
  | cons p f ih =>
    rw [List.map_cons, lkA_cons]
    by_cases hp : p.1 = i
    · simp [hp]
    · have h2 : (f.any fun q => decide (q.1 = i)) = true := by simpa [hp] using h
      simp only [hp, if_false]
      exact ih h2
theorem lkA_put (f : List (Nat × α)) (i k : Nat) (a : α) : lkA (putA f i a) k = if k = i then some a else lkA f k := by
  unfold putA
  split
  · rename_i h
    by_cases hk : k = i
    · subst hk; rw [if_pos rfl]; exact lkA_map1 f k a h
    · rw [if_neg hk]; exact lkA_map0 f i k a hk
  · rename_i h
    rw [lkA_app]
    have h : (lkA f i).isSome = false := by rw [← lkA_any]; exact Bool.eq_false_iff.mpr h
    by_cases hk : k = i
    · subst hk
      have : lkA f k = none := by simpa using h
      simp [this, lkA_cons]
    · rw [if_neg hk, lkA_cons, if_neg (fun z => hk z.symm), lkA_nil]
      cases lkA f k <;> rfl
theorem lkA_mem {f : List (Nat × α)} {i : Nat} {a : α} (h : lkA f i = some a) : (i, a) ∈ f := by
  unfold lkA at h
  obtain ⟨q, h1, h2⟩ := Option.map_eq_some_iff.mp h
  have h3 := List.mem_of_find?_eq_some h1
  have h4 := List.find?_some h1
  have h4 : q.1 = i := by simpa using h4
  rw [← h2, ← h4]
  exact h3
theorem lkA_key {f : List (Nat × α)} {i : Nat} (h : i ∈ f.map (·.1)) : ∃ a, lkA f i = some a := by
  induction f with
  | nil => simp at h
  | cons q f ih =>
    rw [lkA_cons]
    by_cases hq : q.1 = i
    · exact ⟨_, if_pos hq⟩
    · rw [if_neg hq]
      rw [List.map_cons, List.mem_cons] at h
      exact ih (h.resolve_left fun z => hq z.symm)
theorem putA_keys (f : List (Nat × α)) (i : Nat) (a : α) : (putA f i a).map (·.1) = if i ∈ f.map (·.1) then f.map (·.1) else f.map (·.1) ++ [i] := by
  have e : (f.any fun q => decide (q.1 = i)) = decide (i ∈ f.map (·.1)) := by
    induction f with
    | nil => simp
    | cons q f ih =>
      rw [List.any_cons, ih]
      by_cases h1 : q.1 = i
      · simp [h1]
      · have : ¬ i = q.1 := fun z => h1 z.symm
        simp [h1, this]
  unfold putA
  rw [e]
  by_cases h : i ∈ f.map (·.1)
  · rw [if_pos (decide_eq_true h), if_pos h, List.map_map]
    apply List.map_congr_left
    intro q _
    simp only [Function.comp]
    split <;> rfl
  · rw [if_neg (by simpa using h), if_neg h]
    simp
end
/-- a dict by numbers -/
def encA {α : Type} (key : Nat → D) (v : α → D) (f : List (Nat × α)) : List (D × D) := f.map fun q => (key q.1, v q.2)
section
variable {α : Type} {key : Nat → D} {v : α → D} {b : Nat}
theorem look_enc (hk : ∀ i i', i < b → i' < b → keq (key i) (key i') = decide (i = i')) {f : List (Nat × α)} (hf : ∀ i ∈ f.map (·.1), i < b) {i : Nat} (hi : i < b) : lookT (encA key v f) (key i) = (lkA f i).map v := by
  induction f with
  | nil => rfl
  | cons q f ih =>
    have h1 := hk q.1 i (hf _ (by simp)) hi
    have h2 := ih fun k hk => hf k (by simp at hk ⊢; exact .inr hk)
    rw [lkA_cons]
    by_cases hq : q.1 = i
    · subst hq
      simp [encA, lookT, h1]
    · simp only [if_neg hq]
      rw [← h2]
      simp [encA, lookT, h1, hq]
theorem put_enc (hk : ∀ i i', i < b → i' < b → keq (key i) (key i') = decide (i = i')) {f : List (Nat × α)} (hf : ∀ i ∈ f.map (·.1), i < b) {i : Nat} (hi : i < b) (a : α) : putT (encA key v f) (key i) (v a) = encA key v (putA f i a) := by
  have e : ((encA key v f).any fun p => keq p.1 (key i)) = f.any fun q => decide (q.1 = i) := by
    induction f with
    | nil => rfl
    | cons q f ih =>
      have h1 := hk q.1 i (hf _ (by simp)) hi
      have h2 := ih fun k hk => hf k (by simp at hk ⊢; exact .inr hk)
      simp only [encA, List.map_cons, List.any_cons] at h2 ⊢
      rw [h1, h2]
  unfold putT putA
  rw [e]
  split
  · unfold encA
    rw [List.map_map, List.map_map]
    apply List.map_congr_left
    intro q hq
    have h1 := hk q.1 i (hf _ (List.mem_map_of_mem hq)) hi
    simp only [Function.comp]
    rw [h1]
    by_cases hqi : q.1 = i <;> simp [hqi]
  · unfold encA
    rw [List.map_append]; rfl
end
/-! ### loops -/
theorem mFor_sim {σ α : Type} {t : Tg} {body : MSt} (den : α → D) (R : σ → Sl → Prop) (f : σ → α → σ) {r : Rw} : ∀ (L : List α) (s : σ) (sl : Sl),
    (∀ s a sl, a ∈ L → R s sl → ∃ sl1 sl2, bindT t sl (den a) = some sl1 ∧ body ⟨sl1, r⟩ = some (.nx sl2, r) ∧ R (f s a) sl2) → R s sl → ∃ sl', mFor t body (L.map den) sl r = some (.nx sl', r) ∧ R (L.foldl f s) sl'
  | [], s, sl, _, h => ⟨sl, rfl, h⟩
  | a :: L, s, sl, hs, h => by
    obtain ⟨sl1, sl2, h1, h2, h3⟩ := hs s a sl List.mem_cons_self h
    obtain ⟨sl', h4, h5⟩ := mFor_sim den R f L (f s a) sl2 (fun s a sl ha => hs s a sl (List.mem_cons_of_mem _ ha)) h3
    refine ⟨sl', ?_, h5⟩
    rw [List.map_cons, mFor, h1, Option.bind_some, h2, Option.bind_some]
    exact h4
/-- a relation kept from turn to turn: P the items done, in order -/
theorem mFor_rel {α : Type} {t : Tg} {body : MSt} (den : α → D) (R : List α → Sl → Prop) {r : Rw} (L0 : List α) : ∀ (L : List α) (P : List α) (sl : Sl), P ++ L = L0 →
    (∀ P a rest sl, P ++ a :: rest = L0 → R P sl → ∃ sl1 sl2, bindT t sl (den a) = some sl1 ∧ body ⟨sl1, r⟩ = some (.nx sl2, r) ∧ R (P ++ [a]) sl2) → R P sl → ∃ sl', mFor t body (L.map den) sl r = some (.nx sl', r) ∧ R L0 sl'
  | [], P, sl, e, _, h => by
    rw [List.append_nil] at e
    subst e
    exact ⟨sl, rfl, h⟩
  | a :: L, P, sl, e, hs, h => by
    obtain ⟨sl1, sl2, h1, h2, h3⟩ := hs P a L sl e h
    obtain ⟨sl', h4, h5⟩ := mFor_rel den R L0 L (P ++ [a]) sl2 (by rw [← e]; simp) hs h3
    refine ⟨sl', ?_, h5⟩
    rw [List.map_cons, mFor, h1, Option.bind_some, h2, Option.bind_some]
    exact h4
theorem mWh_sim {σ : Type} {t : MT} {body : MSt} {r : Rw} (R : σ → Sl → Prop) (μ : σ → Nat) (c : σ → Bool) (ht : ∀ s sl, R s sl → t ⟨sl, r⟩ = some (c s, r))
    (hb : ∀ s sl, R s sl → c s = true → ∃ s2 sl2, body ⟨sl, r⟩ = some (.nx sl2, r) ∧ R s2 sl2 ∧ (c s2 = true → μ s2 < μ s)) : ∀ (n : Nat) (s : σ) (sl : Sl), (c s = true → μ s + 1 < n) → 1 ≤ n → R s sl → ∃ s' sl', mWh t body n ⟨sl, r⟩ = some (.nx sl', r) ∧ R s' sl' ∧ c s' = false
  | 0, s, sl, _, h, _ => by omega
  | n + 1, s, sl, hn, _, h => by
    cases hc : c s with
    | false =>
      refine ⟨s, sl, ?_, h, hc⟩
      rw [mWh, ht s sl h, hc]
      rfl
    | true =>
      obtain ⟨s2, sl2, h1, h2, h3⟩ := hb s sl h hc
      have hn := hn hc
      obtain ⟨s', sl', h4, h5, h6⟩ := mWh_sim R μ c ht hb n s2 sl2 (fun z => by have := h3 z; omega) (by omega) h2
      refine ⟨s', sl', ?_, h5, h6⟩
      rw [mWh, ht s sl h, hc, Option.bind_some]
      simp only [if_true]
      rw [h1, Option.bind_some]
      exact h4
theorem gVals_map {α : Type} {t : Tg} {me : ME} {slw : Sl} {r : Rw} (den : α → D) (h : α → D) : ∀ {L : List α}, (∀ a ∈ L, ∃ sl1 k, bindT t slw (den a) = some sl1 ∧ me ⟨sl1, r⟩ = some (⟨h a, k⟩, r)) → gVals t me slw r (L.map den) = some (L.map h)
  | [], _ => rfl
  | a :: L, q => by
    obtain ⟨sl1, k, h1, h2⟩ := q a List.mem_cons_self
    have h3 := gVals_map den h (L := L) fun b hb => q b (List.mem_cons_of_mem _ hb)
    simp [gVals, h1, h2, h3]
/-- a comprehension with a test: p tells which items stay -/
theorem mLcGo_map {α : Type} {t : Tg} {mt : MT} {me : ME} {slw : Sl} {r : Rw} (den : α → D) (p : α → Bool) (h : α → D) : ∀ {L : List α} {acc : List D}, acc.length + L.length ≤ lim → (∀ a ∈ L, ∃ sl1, bindT t slw (den a) = some sl1 ∧ mt ⟨sl1, r⟩ = some (p a, r) ∧ (p a = true → ∃ k, k ≠ Kd.bor ∧ me ⟨sl1, r⟩ = some (⟨h a, k⟩, r))) →
    mLcGo t mt me slw (L.map den) r acc = some (acc ++ (L.filter p).map h, r)
  | [], acc, _, _ => by simp [mLcGo]
  | a :: L, acc, hl, q => by
    obtain ⟨sl1, h1, h2, h3⟩ := q a List.mem_cons_self
    rw [List.length_cons] at hl
    cases hp : p a with
    | false =>
      have h4 := mLcGo_map den p h (L := L) (acc := acc) (by omega) fun b hb => q b (List.mem_cons_of_mem _ hb)
      simp [mLcGo, h1, h2, hp, h4]
    | true =>
      obtain ⟨k, hk, h5⟩ := h3 hp
      have h4 := mLcGo_map den p h (L := L) (acc := acc ++ [h a]) (by simp; omega) fun b hb => q b (List.mem_cons_of_mem _ hb)
      have hb : noBorK ⟨h a, k⟩ = true := by simp [noBorK, hk]
      have hl2 : acc.length < lim := by omega
      simp [mLcGo, h1, h2, hp, h5, hb, hl2, h4]
theorem mLcGo_all {α : Type} {t : Tg} {me : ME} {slw : Sl} {r : Rw} (den : α → D) (h : α → D) {L : List α} (hl : L.length ≤ lim) (q : ∀ a ∈ L, ∃ sl1 k, k ≠ Kd.bor ∧ bindT t slw (den a) = some sl1 ∧ me ⟨sl1, r⟩ = some (⟨h a, k⟩, r)) :
    mLcGo t mYes me slw (L.map den) r [] = some (L.map h, r) := by
  have := mLcGo_map (t := t) (mt := mYes) (me := me) (slw := slw) (r := r) den (fun _ => true) h (L := L) (acc := []) (by simpa using hl) fun a ha => by
    obtain ⟨sl1, k, hk, h1, h2⟩ := q a ha
    exact ⟨sl1, h1, rfl, fun _ => ⟨k, hk, h2⟩⟩
  rw [List.filter_eq_self.mpr (by simp)] at this
  simpa using this
/-! ### sorting by numbers -/
def leN (a b : Nat) : Bool := decide (a ≤ b)
theorem ins_map {le : D → D → Bool} {key : Nat → D} {b : Nat} (hle : ∀ i i', i < b → i' < b → le (key i) (key i') = decide (i ≤ i')) {i : Nat} (hi : i < b) : ∀ {L : List Nat}, (∀ k ∈ L, k < b) → ins le (key i) (L.map key) = (ins leN i L).map key
  | [], _ => rfl
  | k :: L, h => by
    have h1 := hle i k hi (h k List.mem_cons_self)
    have h2 := ins_map hle hi (L := L) fun m hm => h m (List.mem_cons_of_mem _ hm)
    simp only [List.map_cons, ins, h1, leN]
    by_cases hik : i ≤ k
    · simp [hik]
    · simp [hik]
      exact h2
theorem ins_mem {i k : Nat} : ∀ {L : List Nat}, k ∈ ins leN i L ↔ k = i ∨ k ∈ L
  | [] => by simp [ins]
  | m :: L => by
    unfold ins
    split
    · simp
    · rw [List.mem_cons, ins_mem, List.mem_cons]
      exact ⟨fun h => by rcases h with h | h | h <;> simp [h], fun h => by rcases h with h | h | h <;> simp [h]⟩
theorem isort_mem {k : Nat} : ∀ {L : List Nat}, k ∈ isort leN L ↔ k ∈ L
  | [] => Iff.rfl
  | m :: L => by rw [isort, ins_mem, isort_mem, List.mem_cons]
theorem isort_map {le : D → D → Bool} {key : Nat → D} {b : Nat} (hle : ∀ i i', i < b → i' < b → le (key i) (key i') = decide (i ≤ i')) : ∀ {L : List Nat}, (∀ k ∈ L, k < b) → isort le (L.map key) = (isort leN L).map key
  | [], _ => rfl
  | k :: L, h => by
    rw [List.map_cons, isort, isort, isort_map hle fun m hm => h m (List.mem_cons_of_mem _ hm)]
    exact ins_map hle (h k List.mem_cons_self) fun m hm => h m (List.mem_cons_of_mem _ (isort_mem.mp hm))
theorem sortable_gs {g : Gp} (ok : GpOk g) {L : List Nat} (h : ∀ k ∈ L, k < g.B) : sortable (L.map g.gs) = true := by
  unfold sortable
  simp only [Bool.and_eq_true, Bool.or_eq_true, List.all_eq_true, List.mem_map, forall_exists_index, and_imp, forall_apply_eq_imp_iff₂, decide_eq_true_eq]
  exact ⟨⟨.inl fun i hi => (ok.gshp i (h i hi)).2.2, fun i hi k hk => ok.galike i k (h i hi) (h k hk)⟩, fun i hi => ⟨(ok.gshp i (h i hi)).1, (ok.gshp i (h i hi)).2.1⟩⟩
/-! ### walks -/
def wk (g : Gp) (s : Nat) (w : List Nat) : Nat := w.foldl g.nx s
def cost (u : Nu) (w : List Nat) : Int := (w.map u.pr).sum
def valid (g : Gp) (w : List Nat) : Prop := ∀ j ∈ w, j < g.S
theorem wk_lt {g : Gp} (ok : GpOk g) : ∀ {w : List Nat} {s : Nat}, s < g.B → valid g w → wk g s w < g.B
  | [], s, hs, _ => hs
  | j :: w, s, hs, hv => wk_lt ok (w := w) (s := g.nx s j) (ok.nxlt s j hs (hv j List.mem_cons_self)) fun k hk => hv k (List.mem_cons_of_mem _ hk)
theorem wk_snoc {g : Gp} {s : Nat} {w : List Nat} {j : Nat} : wk g s (w ++ [j]) = g.nx (wk g s w) j := by simp [wk]
theorem cost_snoc {u : Nu} {w : List Nat} {j : Nat} : cost u (w ++ [j]) = cost u w + u.pr j := by simp [cost]
end GD
/-! Kb -/
set_option maxHeartbeats 4000000
/-! Kb: rows_from. -/
namespace GD
open PySem L2
theorem fIx_dT (kvs : List (D × D)) (k : D) : fIx (.dT kvs) k = if keyOk k = true then (lookT kvs k).map datE else none := by
  unfold fIx fIxL fIxT fIxD fIxI
  cases k <;> simp
theorem fIn_dT (neg : Bool) (kvs : List (D × D)) (k : D) : fIn neg k (.dT kvs) = if keyOk k = true then some (evB (neg != (lookT kvs k).isSome)) else none := by
  unfold fIn fInT fInL fInD
  simp
theorem gSortA_dT (l : List (D × D)) : gSortA [.dT l] = if (sortable (l.map (·.1)) && decide (l.length ≤ lim)) = true then some ⟨.lst (isort leD (l.map (·.1))), .new⟩ else none := by
  unfold gSortA f1 gSorted gSortedT
  simp
theorem gSortA_lst (l : List D) : gSortA [.lst l] = if (sortable l && decide (l.length ≤ lim)) = true then some ⟨.lst (isort leD l), .new⟩ else none := by
  unfold gSortA f1 gSorted gSortedT
  simp
theorem noBor_nil : noBor [] = true := rfl
theorem noBor_cons (d : D) (es : List EV) : noBor (⟨d, .dat⟩ :: es) = noBor es := by simp [noBor]
theorem noBor_new (d : D) (es : List EV) : noBor (⟨d, .new⟩ :: es) = noBor es := by simp [noBor]
theorem noBor_map {α : Type} (f : α → D) (l : List α) (es : List EV) : noBor (List.map (datE ∘ f) l ++ es) = noBor es := by
  unfold noBor
  rw [List.all_append]
  have : (List.map (datE ∘ f) l).all (fun e => e.k != .bor) = true := by
    rw [List.all_eq_true]
    intro x hx
    obtain ⟨y, _, rfl⟩ := List.mem_map.mp hx
    rfl
  rw [this, Bool.true_and]
theorem mapd_map {α : Type} (f : α → D) (l : List α) : List.map ((fun (x : EV) => x.d) ∘ datE ∘ f) l = l.map f := rfl
structure Lb where
  p : Int
  m : Int
  row : List Nat
def encL (g : Gp) (l : Lb) : D := .tup [.int l.p, .int l.m, .tup (l.row.map g.st)]
def Le2 (l : Lb) (p m : Int) : Prop := l.p < p ∨ (l.p = p ∧ l.m ≤ m)
def nodes (g : Gp) (s : Nat) (w : List Nat) : List Nat := (List.range (w.length + 1)).map fun k => wk g s (w.take k)
structure Sd (g : Gp) (u : Nu) (s : Nat) (f : List (Nat × Lb)) : Prop where
  keys : ∀ i ∈ f.map (·.1), i < g.B
  nd : (f.map (·.1)).Nodup
  start : ∃ l, lkA f s = some l ∧ l.p ≤ 0
  ok : ∀ i l, lkA f i = some l → valid g l.row ∧ wk g s l.row = i ∧ cost u l.row = l.p ∧ l.m = l.row.length ∧ (∀ k : Nat, k ≤ l.row.length → ∃ lu, lkA f (wk g s (l.row.take k)) = some lu ∧ Le2 lu (cost u (l.row.take k)) k) ∧ (nodes g s l.row).Nodup
def Cl (g : Gp) (u : Nu) (f : List (Nat × Lb)) (i j : Nat) : Prop := ∀ l, lkA f i = some l → ∃ l', lkA f (g.nx i j) = some l' ∧ l'.p ≤ l.p + u.pr j
def po : Option Lb → Nat
  | none => 200
  | some l => (5 * l.p + l.m).toNat
def mu (g : Gp) (f : List (Nat × Lb)) : Nat := ((List.range g.B).map fun t => po (lkA f t)).sum
theorem sum_le {h h' : Nat → Nat} : ∀ {L : List Nat}, (∀ x ∈ L, h x ≤ h' x) → (L.map h).sum ≤ (L.map h').sum
  | [], _ => Nat.le_refl _
  | a :: L, q => by
    have h1 := q a List.mem_cons_self
    have h2 := sum_le (L := L) fun x hx => q x (List.mem_cons_of_mem _ hx)
    simp only [List.map_cons, List.sum_cons]
    omega
theorem sum_lt {h h' : Nat → Nat} {t : Nat} : ∀ {L : List Nat}, t ∈ L → (∀ x ∈ L, h x ≤ h' x) → h t < h' t → (L.map h).sum < (L.map h').sum
  | [], ht, _, _ => by cases ht
  | a :: L, ht, q, hl => by
    have h1 := q a List.mem_cons_self
    have h2 := sum_le (L := L) fun x hx => q x (List.mem_cons_of_mem _ hx)
    simp only [List.map_cons, List.sum_cons]
    rcases List.mem_cons.mp ht with rfl | ht
    · omega
    · have := sum_lt ht (fun x hx => q x (List.mem_cons_of_mem _ hx)) hl
      omega
section
variable {g : Gp} {u : Nu} {s : Nat}
theorem cost_nn (ok : GpOk g) (nu : NuOk g u) : ∀ {w : List Nat}, valid g w → 0 ≤ cost u w ∧ cost u w ≤ 5 * w.length
  | [], _ => by simp [cost]
  | j :: w, h => by
    have h1 := nu.pr0 j (h j List.mem_cons_self)
    have h2 := cost_nn ok nu (w := w) fun k hk => h k (List.mem_cons_of_mem _ hk)
    simp only [cost, List.map_cons, List.sum_cons, List.length_cons] at h2 ⊢
    omega
theorem nodup_len : ∀ {b : Nat} {L : List Nat}, L.Nodup → (∀ i ∈ L, i < b) → L.length ≤ b
  | 0, L, _, hb => by
    cases L with
    | nil => exact Nat.le_refl _
    | cons a L => exact absurd (hb a List.mem_cons_self) (Nat.not_lt_zero _)
  | b + 1, L, h, hb => by
    have h1 := nodup_len (b := b) (L := L.erase b) (h.erase b) fun i hi => by
      rw [h.mem_erase_iff] at hi
      have := hb i hi.2
      have := hi.1
      omega
    rw [List.length_erase] at h1
    split at h1 <;> omega
theorem nodes_lt (ok : GpOk g) (hs : s < g.B) {w : List Nat} (hv : valid g w) : ∀ i ∈ nodes g s w, i < g.B := by
  intro i hi
  obtain ⟨k, _, rfl⟩ := List.mem_map.mp hi
  exact wk_lt ok hs fun j hj => hv j (List.mem_of_mem_take hj)
theorem Sd.short (ok : GpOk g) (hs : s < g.B) {f : List (Nat × Lb)} (h : Sd g u s f) {i : Nat} {l : Lb} (e : lkA f i = some l) : l.row.length ≤ 4 := by
  obtain ⟨h1, _, _, _, _, h6⟩ := h.ok i l e
  have := nodup_len h6 (nodes_lt ok hs h1)
  have b5 := ok.b5
  unfold nodes at this
  rw [List.length_map, List.length_range] at this
  omega
theorem Sd.lt {f : List (Nat × Lb)} (h : Sd g u s f) {i : Nat} {l : Lb} (e : lkA f i = some l) : i < g.B := h.keys i (List.mem_map.mpr ⟨_, lkA_mem e, rfl⟩)
theorem nodes_snoc {w : List Nat} {j : Nat} : nodes g s (w ++ [j]) = nodes g s w ++ [g.nx (wk g s w) j] := by
  unfold nodes
  rw [List.length_append, List.length_singleton, List.range_succ (n := w.length + 1), List.map_append]
  congr 1
  · apply List.map_congr_left
    intro k hk
    rw [List.mem_range] at hk
    rw [List.take_append_of_le_length (by omega)]
  · simp [wk_snoc, List.take_of_length_le]
/-- one relaxation that betters -/
theorem Sd.relax (ok : GpOk g) (nu : NuOk g u) (hs : s < g.B) {f : List (Nat × Lb)} (h : Sd g u s f) {i j : Nat} {l : Lb} (e : lkA f i = some l) (hj : j < g.S)
    (hb : ∀ l', lkA f (g.nx i j) = some l' → (l.p + u.pr j < l'.p ∨ (l.p + u.pr j = l'.p ∧ l.m + 1 < l'.m))) :
    Sd g u s (putA f (g.nx i j) ⟨l.p + u.pr j, l.m + 1, l.row ++ [j]⟩) ∧ lkA (putA f (g.nx i j) ⟨l.p + u.pr j, l.m + 1, l.row ++ [j]⟩) i = some l ∧ mu g (putA f (g.nx i j) ⟨l.p + u.pr j, l.m + 1, l.row ++ [j]⟩) < mu g f := by
  obtain ⟨h1, h2, h3, h4, h5, h6⟩ := h.ok i l e
  have hi := h.lt e
  have ht := ok.nxlt i j hi hj
  have hp := nu.pr0 j hj
  have hne : g.nx i j ≠ i := by
    intro z
    rw [z] at hb
    rcases hb l e with q | ⟨q1, q2⟩ <;> omega
  have hv : valid g (l.row ++ [j]) := fun k hk => by
    rcases List.mem_append.mp hk with hk | hk
    · exact h1 k hk
    · simp at hk; subst hk; exact hj
  -- labels only fall
  have fall : ∀ v lv, lkA f v = some lv → ∃ lw, lkA (putA f (g.nx i j) ⟨l.p + u.pr j, l.m + 1, l.row ++ [j]⟩) v = some lw ∧ Le2 lw lv.p lv.m := by
    intro v lv hv
    rw [lkA_put]
    by_cases hvt : v = g.nx i j
    · subst hvt
      refine ⟨_, if_pos rfl, ?_⟩
      rcases hb lv hv with q | ⟨q1, q2⟩
      · exact .inl q
      · exact .inr ⟨q1, by show l.m + 1 ≤ lv.m; omega⟩
    · exact ⟨lv, by rw [if_neg hvt]; exact hv, .inr ⟨rfl, Int.le_refl _⟩⟩
  have le_tr : ∀ {a b : Lb} {p m : Int}, Le2 a b.p b.m → Le2 b p m → Le2 a p m := by
    intro a b p m q1 q2
    unfold Le2 at *
    omega
  have nwk : wk g s (l.row ++ [j]) = g.nx i j := by rw [wk_snoc, h2]
  have ndn : (nodes g s (l.row ++ [j])).Nodup := by
    rw [nodes_snoc, h2]
    rw [List.nodup_append]
    refine ⟨h6, by simp, ?_⟩
    intro a ha b hb2
    simp at hb2
    subst hb2
    obtain ⟨k, hk, rfl⟩ := List.mem_map.mp ha
    rw [List.mem_range] at hk
    obtain ⟨lu, q1, q2⟩ := h5 k (by omega)
    intro z
    rw [z] at q1
    have c1 : cost u l.row = cost u (l.row.take k) + cost u (l.row.drop k) := by
      conv => lhs; rw [← List.take_append_drop k l.row]
      simp only [cost, List.map_append, List.sum_append]
    have c2 := (cost_nn ok nu (w := l.row.drop k) fun m hm => h1 m (List.mem_of_mem_drop hm)).1
    have q3 := hb lu q1
    unfold Le2 at q2
    omega
  have sd : Sd g u s (putA f (g.nx i j) ⟨l.p + u.pr j, l.m + 1, l.row ++ [j]⟩) := by
    refine ⟨fun k hk => ?_, ?_, ?_, fun k lk hk => ?_⟩
    · rw [putA_keys] at hk
      split at hk
      · exact h.keys k hk
      · rcases List.mem_append.mp hk with hk | hk
        · exact h.keys k hk
        · simp at hk; subst hk; exact ht
    · rw [putA_keys]
      split
      · exact h.nd
      · rename_i hn
        rw [List.nodup_append]
        refine ⟨h.nd, by simp, fun a ha b hb z => ?_⟩
        simp at hb
        subst hb z
        exact hn ha
    · obtain ⟨l0, q1, q2⟩ := h.start
      obtain ⟨lw, q3, q4⟩ := fall s l0 q1
      refine ⟨lw, q3, ?_⟩
      unfold Le2 at q4
      omega
    · rw [lkA_put] at hk
      by_cases hkt : k = g.nx i j
      · rw [if_pos hkt] at hk
        cases hk
        refine ⟨hv, by rw [hkt]; exact nwk, by rw [cost_snoc, h3], by rw [h4]; simp, fun n hn => ?_, ndn⟩
        rw [List.length_append, List.length_singleton] at hn
        by_cases hnl : n ≤ l.row.length
        · rw [List.take_append_of_le_length hnl]
          obtain ⟨lu, q1, q2⟩ := h5 n hnl
          obtain ⟨lw, q3, q4⟩ := fall _ lu q1
          exact ⟨lw, q3, le_tr q4 q2⟩
        · have : n = l.row.length + 1 := by omega
          subst this
          rw [List.take_of_length_le (by simp), nwk, lkA_put, if_pos rfl]
          refine ⟨_, rfl, .inr ⟨by rw [cost_snoc, h3], ?_⟩⟩
          show l.m + 1 ≤ _
          rw [h4]; simp
      · rw [if_neg hkt] at hk
        obtain ⟨a1, a2, a3, a4, a5, a6⟩ := h.ok k lk hk
        refine ⟨a1, a2, a3, a4, fun n hn => ?_, a6⟩
        obtain ⟨lu, q1, q2⟩ := a5 n hn
        obtain ⟨lw, q3, q4⟩ := fall _ lu q1
        exact ⟨lw, q3, le_tr q4 q2⟩
  refine ⟨sd, ?_, ?_⟩
  · rw [lkA_put, if_neg (fun z => hne z.symm)]
    exact e
  · have hpo : po (lkA (putA f (g.nx i j) ⟨l.p + u.pr j, l.m + 1, l.row ++ [j]⟩) (g.nx i j)) < po (lkA f (g.nx i j)) := by
      rw [lkA_put, if_pos rfl]
      have sh := sd.short ok hs (i := g.nx i j) (l := ⟨l.p + u.pr j, l.m + 1, l.row ++ [j]⟩) (by rw [lkA_put, if_pos rfl])
      have sh : (l.row ++ [j]).length ≤ 4 := sh
      rw [List.length_append, List.length_singleton] at sh
      have cn := cost_nn ok nu hv
      rw [cost_snoc, h3, List.length_append, List.length_singleton] at cn
      cases hl : lkA f (g.nx i j) with
      | none =>
        show (5 * (l.p + u.pr j) + (l.m + 1)).toNat < 200
        rw [h4]
        omega
      | some l' =>
        have q := hb l' hl
        obtain ⟨b1, _, b3, b4, _, _⟩ := h.ok _ l' hl
        have b5 := cost_nn ok nu b1
        rw [b3] at b5
        show (5 * (l.p + u.pr j) + (l.m + 1)).toNat < (5 * l'.p + l'.m).toNat
        rw [h4] at q ⊢
        rw [b4] at q ⊢
        omega
    unfold mu
    refine sum_lt (t := g.nx i j) (List.mem_range.mpr ht) (fun x _ => ?_) hpo
    by_cases hx : x = g.nx i j
    · subst hx; omega
    · rw [lkA_put, if_neg hx]
      exact Nat.le_refl _
end
end GD
/-! Kc -/
set_option maxHeartbeats 4000000
/-! Kc: rows_from, simulated. -/
namespace GD
open PySem L2
section
variable {g : Gp} {u : Nu} {s : Nat}
def tabD (g : Gp) (u : Nu) : List (D × D) := u.prm.map fun j => (g.st j, D.int (u.pr j))
theorem tab_look (ok : GpOk g) (nu : NuOk g u) {j : Nat} (hj : j < g.S) : lookT (tabD g u) (g.st j) = some (.int (u.pr j)) := by
  have h : ∀ L : List Nat, (∀ k ∈ L, k < g.S) → j ∈ L → lookT (L.map fun j => (g.st j, D.int (u.pr j))) (g.st j) = some (.int (u.pr j)) := by
    intro L
    induction L with
    | nil => intro _ h; cases h
    | cons k L ih =>
      intro hk hm
      have e := ok.skeq k j (hk k List.mem_cons_self) hj
      by_cases hkj : k = j
      · subst hkj
        simp [lookT, e]
      · have hm : j ∈ L := (List.mem_cons.mp hm).resolve_left fun z => hkj z.symm
        have := ih (fun m hm => hk m (List.mem_cons_of_mem _ hm)) hm
        simp [lookT, e, hkj] at this ⊢
        exact this
  exact h u.prm (fun k hk => (nu.prm k).mp hk) ((nu.prm j).mpr hj)
theorem fIx_tab (ok : GpOk g) (nu : NuOk g u) {j : Nat} (hj : j < g.S) : fIx (.dT (tabD g u)) (g.st j) = some ⟨.int (u.pr j), .dat⟩ := by
  rw [fIx_dT, if_pos (ok.skey j hj), tab_look ok nu hj]; rfl
abbrev encF (g : Gp) (f : List (Nat × Lb)) : D := .dT (encA g.gs (encL g) f)
abbrev rfStep : MSt := (mSeq (mPar [11, 12] (mCons (mFn 2 f_stepped (mCons (mVar 6) (mCons (mVar 10) mNil))) (mCons (mTup (mCons (mBin fAdd (mVar 7) (mBin fIx (mVar 3) (mVar 10))) (mCons (mBin fAdd (mVar 8) (mCst (.int 1))) mNil))) mNil)))
 (mIfS (mTOr (mTb (mBin (fIn true) (mVar 11) (mVar 4))) (mTb (mBin fLt (mVar 12) (mSl fSlT (mBin fIx (mVar 4) (mVar 11)) mONone (mOSome (mCst (.int 2)))))))
 (mSeq (mPutT 4 (mVar 11) (mTup (mStar (mVar 12) (mCons (mTup (mStar (mVar 9) (mCons (mVar 10) mNil))) mNil))))
 (mAsg 5 (mCst (.bl true))))
 mNext))
abbrev rfSweep : MSt := (mForS (.one 6) (mIt (mCall gSortA (mCons (mVar 4) mNil)))
 (mSeq (mUnp [7, 8, 9] (mBin fIx (mVar 4) (mVar 6)))
 (mForS (.one 10) (mIt (mFn 1 f_all_steps (mCons (mVar 2) mNil))) rfStep)))
theorem rf_eq : m_rows_from = (mSeq (mAsg 2 (mFn 1 f_size_of (mCons (mVar 0) mNil)))
 (mSeq (mAsg 3 (mFn 2 f_price_table (mCons (mVar 2) (mCons (mVar 1) mNil))))
 (mSeq (mPar [4, 5] (mCons (mD1 (mVar 0) (mTup (mCons (mCst (.int 0)) (mCons (mCst (.int 0)) (mCons (mTup mNil) mNil))))) (mCons (mCst (.bl true)) mNil)))
 (mSeq (mWh (mTr (mVar 5)) (mSeq (mAsg 5 (mCst (.bl false))) rfSweep) 10000)
 (mRetVar 4))))) := rfl
def slR (g : Gp) (u : Nu) (s : Nat) (f : List (Nat × Lb)) (b : Bool) (t : Sl) : Sl := some (.dat (g.gs s)) :: some (.dat u.ps) :: some (.dat (.int g.n)) :: some (.own (.dT (tabD g u))) :: some (.own (encF g f)) :: some (.dat (.bl b)) :: t
def lbS (g : Gp) (i : Nat) (l : Lb) (t : Sl) : Sl := some (.dat (g.gs i)) :: some (.dat (.int l.p)) :: some (.dat (.int l.m)) :: some (.dat (.tup (l.row.map g.st))) :: t
theorem rf_step (ok : GpOk g) (nu : NuOk g u) (hs : s < g.B) {f : List (Nat × Lb)} {b : Bool} {i j : Nat} {l : Lb} {a11 a12 : Option SV} {r : Rw} (sd : Sd g u s f) (e : lkA f i = some l) (hj : j < g.S) :
    ∃ f' b' c11 c12, rfStep ⟨slR g u s f b (lbS g i l [some (.dat (g.st j)), a11, a12]), r⟩ = some (.nx (slR g u s f' b' (lbS g i l [some (.dat (g.st j)), c11, c12])), r) ∧
      ((f' = f ∧ b' = b ∧ ∃ l', lkA f (g.nx i j) = some l' ∧ l'.p ≤ l.p + u.pr j) ∨ (b' = true ∧ Sd g u s f' ∧ lkA f' i = some l ∧ mu g f' < mu g f ∧ ∀ k ∈ f.map (·.1), k ∈ f'.map (·.1))) := by
  have hi := sd.lt e
  have ht := ok.nxlt i j hi hj
  have h1 := ok.step i j r hi hj
  have h2 := fIx_tab ok nu hj
  have hlook : lookT (encA g.gs (encL g) f) (g.gs (g.nx i j)) = (lkA f (g.nx i j)).map (encL g) := look_enc ok.gkeq sd.keys ht
  have hkey := ok.gkey _ ht
  have hput := put_enc (v := encL g) ok.gkeq sd.keys ht ⟨l.p + u.pr j, l.m + 1, l.row ++ [j]⟩
  have hlen : f.length < lim := by
    have h1 := nodup_len sd.nd sd.keys
    rw [List.length_map] at h1
    have := ok.b5
    have : lim = 1000000 := rfl
    omega
  have hlen2 : (encA g.gs (encL g) f).length < 1000000 := by unfold encA; rw [List.length_map]; exact hlen
  have hrow := sd.short ok hs e
  have hrow2 : ¬ (1000000 < l.row.length + 1) := by omega
  have step1 : ∀ rest : MSt, mSeq (mPar [11, 12] (mCons (mFn 2 f_stepped (mCons (mVar 6) (mCons (mVar 10) mNil))) (mCons (mTup (mCons (mBin fAdd (mVar 7) (mBin fIx (mVar 3) (mVar 10))) (mCons (mBin fAdd (mVar 8) (mCst (.int 1))) mNil))) mNil))) rest ⟨slR g u s f b (lbS g i l [some (.dat (g.st j)), a11, a12]), r⟩
      = rest ⟨slR g u s f b (lbS g i l [some (.dat (g.st j)), some (.dat (g.gs (g.nx i j))), some (.dat (.tup [.int (l.p + u.pr j), .int (l.m + 1)]))]), r⟩ := by
    intro rest
    simp [mSeq, mAsg, mPar, mUnp, mCons, mNil, mStar, mFn, mVar, mCst, mTup, mLst, mBin, mIfS, mIf, mTb, mTr, mTNot, mTOr, mTAnd, mAnd, mOr, mNot, mIs, mCall, f1, mNext, mRet, mRetVar, mDrop, evI, evB, datE, kept, setE, noBor_nil, noBor_cons, noBor_new, noBor_map, mapd_map, noBorK, fAdd, fSub, fMul, fMulI, fDiv, fMod, fInt, fCatL, fCatT, fLt, fLtI, fLtT, fLe, fGt, fGe, fIsN, isNon, fIsNB, ownAt, mApp, mPutT, mPutI, mSetI, frz, mFrz, truD, intsD, isTupD, isIntD, isBoolD, isStrD, isListD, isTLD, itemsD, gLen, gInt, gTuple, mNeg, mChain, mBrk, lim, mSl, mOSome, mONone, bindT, mNever, mTb, slR, lbS, h1, h2]
  have putS : (mSeq (mPutT 4 (mVar 11) (mTup (mStar (mVar 12) (mCons (mTup (mStar (mVar 9) (mCons (mVar 10) mNil))) mNil)))) (mAsg 5 (mCst (.bl true)))) ⟨slR g u s f b (lbS g i l [some (.dat (g.st j)), some (.dat (g.gs (g.nx i j))), some (.dat (.tup [.int (l.p + u.pr j), .int (l.m + 1)]))]), r⟩
      = some (.nx (slR g u s (putA f (g.nx i j) ⟨l.p + u.pr j, l.m + 1, l.row ++ [j]⟩) true (lbS g i l [some (.dat (g.st j)), some (.dat (g.gs (g.nx i j))), some (.dat (.tup [.int (l.p + u.pr j), .int (l.m + 1)]))])), r) := by
    have hput' : putT (encA g.gs (encL g) f) (g.gs (g.nx i j)) (.tup [.int (l.p + u.pr j), .int (l.m + 1), .tup (l.row.map g.st ++ [g.st j])]) = encA g.gs (encL g) (putA f (g.nx i j) ⟨l.p + u.pr j, l.m + 1, l.row ++ [j]⟩) := by
      rw [← hput]
      simp [encL]
    have hr3 : l.row.length + 1 ≤ 1000000 := by omega
    simp [mSeq, mAsg, mPar, mUnp, mCons, mNil, mStar, mFn, mVar, mCst, mTup, mLst, mBin, mIfS, mIf, mTb, mTr, mTNot, mTOr, mTAnd, mAnd, mOr, mNot, mIs, mCall, f1, mNext, mRet, mRetVar, mDrop, evI, evB, datE, kept, setE, noBor_nil, noBor_cons, noBor_new, noBor_map, mapd_map, noBorK, fAdd, fSub, fMul, fMulI, fDiv, fMod, fInt, fCatL, fCatT, fLt, fLtI, fLtT, fLe, fGt, fGe, fIsN, isNon, fIsNB, ownAt, mApp, mPutT, mPutI, mSetI, frz, mFrz, truD, intsD, isTupD, isIntD, isBoolD, isStrD, isListD, isTLD, itemsD, gLen, gInt, gTuple, mNeg, mChain, mBrk, lim, mSl, mOSome, mONone, bindT, mNever, mTb, slR, lbS, encF, hlen2, hkey, hput', hr3]
  have key := step1 (mIfS (mTOr (mTb (mBin (fIn true) (mVar 11) (mVar 4))) (mTb (mBin fLt (mVar 12) (mSl fSlT (mBin fIx (mVar 4) (mVar 11)) mONone (mOSome (mCst (.int 2)))))))
 (mSeq (mPutT 4 (mVar 11) (mTup (mStar (mVar 12) (mCons (mTup (mStar (mVar 9) (mCons (mVar 10) mNil))) mNil)))) (mAsg 5 (mCst (.bl true)))) mNext)
  have key : rfStep ⟨slR g u s f b (lbS g i l [some (.dat (g.st j)), a11, a12]), r⟩ = _ := key
  rw [key]
  cases hl : lkA f (g.nx i j) with
  | none =>
    have hlk : lookT (encA g.gs (encL g) f) (g.gs (g.nx i j)) = none := by rw [hlook, hl]; rfl
    have sd' := sd.relax ok nu hs e hj (fun l' h => by rw [hl] at h; cases h)
    refine ⟨putA f (g.nx i j) ⟨l.p + u.pr j, l.m + 1, l.row ++ [j]⟩, true, some (.dat (g.gs (g.nx i j))), some (.dat (.tup [.int (l.p + u.pr j), .int (l.m + 1)])), ?_, .inr ⟨rfl, sd'.1, sd'.2.1, sd'.2.2, fun k hk => ?_⟩⟩
    · rw [← putS]
      simp only [mIfS]
      have : mTOr (mTb (mBin (fIn true) (mVar 11) (mVar 4))) (mTb (mBin fLt (mVar 12) (mSl fSlT (mBin fIx (mVar 4) (mVar 11)) mONone (mOSome (mCst (.int 2)))))) ⟨slR g u s f b (lbS g i l [some (.dat (g.st j)), some (.dat (g.gs (g.nx i j))), some (.dat (.tup [.int (l.p + u.pr j), .int (l.m + 1)]))]), r⟩ = some (true, r) := by
        simp [mTOr, mTb, mBin, mVar, slR, lbS, fIn_dT, hkey, hlk, evB]
      rw [this]
      rfl
    · rw [putA_keys]
      split
      · exact hk
      · exact List.mem_append_left _ hk
  | some l' =>
    have hlk : lookT (encA g.gs (encL g) f) (g.gs (g.nx i j)) = some (encL g l') := by rw [hlook, hl]; rfl
    have test : mTOr (mTb (mBin (fIn true) (mVar 11) (mVar 4))) (mTb (mBin fLt (mVar 12) (mSl fSlT (mBin fIx (mVar 4) (mVar 11)) mONone (mOSome (mCst (.int 2)))))) ⟨slR g u s f b (lbS g i l [some (.dat (g.st j)), some (.dat (g.gs (g.nx i j))), some (.dat (.tup [.int (l.p + u.pr j), .int (l.m + 1)]))]), r⟩ = some (HT.lexLt [l.p + u.pr j, l.m + 1] [l'.p, l'.m], r) := by
      have hc : cutD [.int l'.p, .int l'.m, .tup (l'.row.map g.st)] none (some 2) = [.int l'.p, .int l'.m] := rfl
      simp [mTOr, mTb, mBin, mVar, slR, lbS, fIn_dT, fIx_dT, hkey, hlk, evB, datE, mSl, mONone, mOSome, mCst, fSlT, encL, hc, fLt, fLtI, fInt, fLtT, intsD]
    simp only [mIfS, test, Option.bind_some]
    cases hx : HT.lexLt [l.p + u.pr j, l.m + 1] [l'.p, l'.m] with
    | true =>
      have hx2 : l.p + u.pr j < l'.p ∨ (l.p + u.pr j = l'.p ∧ l.m + 1 < l'.m) := by
        simp only [HT.lexLt] at hx
        split at hx
        · rename_i h
          split at hx
          · cases hx
          · exact .inr ⟨h, of_decide_eq_true hx⟩
        · exact .inl (of_decide_eq_true hx)
      have sd' := sd.relax ok nu hs e hj (fun l2 h => by rw [hl] at h; cases h; exact hx2)
      refine ⟨putA f (g.nx i j) ⟨l.p + u.pr j, l.m + 1, l.row ++ [j]⟩, true, some (.dat (g.gs (g.nx i j))), some (.dat (.tup [.int (l.p + u.pr j), .int (l.m + 1)])), ?_, .inr ⟨rfl, sd'.1, sd'.2.1, sd'.2.2, fun k hk => ?_⟩⟩
      · rw [← putS]; rfl
      · rw [putA_keys]
        split
        · exact hk
        · exact List.mem_append_left _ hk
    | false =>
      refine ⟨f, b, _, _, rfl, .inl ⟨rfl, rfl, l', rfl, ?_⟩⟩
      simp only [HT.lexLt] at hx
      split at hx
      · omega
      · have := of_decide_eq_false hx
        omega
end
end GD
/-! Kd -/
set_option maxHeartbeats 4000000
/-! Kd: rows_from, the loops. -/
namespace GD
open PySem L2
section
variable {g : Gp} {u : Nu} {s : Nat}
def Sub (f f' : List (Nat × Lb)) : Prop := ∀ k ∈ f.map (·.1), k ∈ f'.map (·.1)
theorem mIt_call1 {F : MF} {sl : Sl} {i : Nat} {d : D} {L : List D} {r : Rw} (h : sl[i]? = some (some (.dat d))) (hF : F [d] r = some (⟨.lst L, .new⟩, r)) : mIt (mFn 1 F (mCons (mVar i) mNil)) ⟨sl, r⟩ = some (L, true, r) := by
  simp [mIt, mSeq, mAsg, mPar, mUnp, mCons, mNil, mStar, mFn, mVar, mCst, mTup, mLst, mBin, mIfS, mIf, mTb, mTr, mTNot, mTOr, mTAnd, mAnd, mOr, mNot, mIs, mCall, f1, mNext, mRet, mRetVar, mDrop, evI, evB, datE, kept, setE, noBor_nil, noBor_cons, noBor_new, noBor_map, mapd_map, noBorK, fAdd, fSub, fMul, fMulI, fDiv, fMod, fInt, fCatL, fCatT, fLt, fLtI, fLtT, fLe, fGt, fGe, fIsN, isNon, fIsNB, ownAt, mApp, mPutT, mPutI, mSetI, frz, mFrz, truD, intsD, isTupD, isIntD, isBoolD, isStrD, isListD, isTLD, itemsD, gLen, gInt, gTuple, mNeg, mChain, mBrk, lim, mSl, mOSome, mONone, bindT, mNever, mTb, h, hF, itD]
theorem mIt_sort {sl : Sl} {i : Nat} {l : List (D × D)} {L : List D} {r : Rw} (h : sl[i]? = some (some (.own (.dT l)))) (hF : gSortA [.dT l] = some ⟨.lst L, .new⟩) : mIt (mCall gSortA (mCons (mVar i) mNil)) ⟨sl, r⟩ = some (L, true, r) := by
  simp [mIt, mSeq, mAsg, mPar, mUnp, mCons, mNil, mStar, mFn, mVar, mCst, mTup, mLst, mBin, mIfS, mIf, mTb, mTr, mTNot, mTOr, mTAnd, mAnd, mOr, mNot, mIs, mCall, f1, mNext, mRet, mRetVar, mDrop, evI, evB, datE, kept, setE, noBor_nil, noBor_cons, noBor_new, noBor_map, mapd_map, noBorK, fAdd, fSub, fMul, fMulI, fDiv, fMod, fInt, fCatL, fCatT, fLt, fLtI, fLtT, fLe, fGt, fGe, fIsN, isNon, fIsNB, ownAt, mApp, mPutT, mPutI, mSetI, frz, mFrz, truD, intsD, isTupD, isIntD, isBoolD, isStrD, isListD, isTLD, itemsD, gLen, gInt, gTuple, mNeg, mChain, mBrk, lim, mSl, mOSome, mONone, bindT, mNever, mTb, h, hF, itD]
theorem mBody_rt {n : Nat} {m : MSt} {ds : List D} {r r' : Rw} {sl : Sl} {e : EV} (hsl : ds.map (fun d => some (SV.dat d)) ++ List.replicate (n - ds.length) none = sl) (h : m ⟨sl, r⟩ = some (.rt e, r')) : mBody n m ds r = some (e, r') := by
  subst hsl
  unfold mBody
  rw [h]; rfl
theorem mForS_eq {t : Tg} {mi : MI} {body : MSt} {s : MS} {L : List D} {r : Rw} (h : mi s = some (L, true, r)) : mForS t mi body s = mFor t body L s.sl r := by
  simp only [mForS, h, Option.bind_some, if_true]
theorem mSeq_nx {a b : MSt} {s : MS} {sl : Sl} {r : Rw} (h : a s = some (.nx sl, r)) : mSeq a b s = b ⟨sl, r⟩ := by
  simp only [mSeq, h, Option.bind_some]
theorem mSeq_rt {a b : MSt} {s : MS} {e : EV} {r : Rw} (h : a s = some (.rt e, r)) : mSeq a b s = some (.rt e, r) := by
  simp only [mSeq, h, Option.bind_some]
theorem rf_inner (ok : GpOk g) (nu : NuOk g u) (hs : s < g.B) {f : List (Nat × Lb)} {b : Bool} {i : Nat} {l : Lb} {a10 a11 a12 : Option SV} {r : Rw} (sd : Sd g u s f) (e : lkA f i = some l) :
    ∃ f' b' c10 c11 c12, (mForS (.one 10) (mIt (mFn 1 f_all_steps (mCons (mVar 2) mNil))) rfStep) ⟨slR g u s f b (lbS g i l [a10, a11, a12]), r⟩ = some (.nx (slR g u s f' b' (lbS g i l [c10, c11, c12])), r) ∧
      Sd g u s f' ∧ Sub f f' ∧ ((b' = b ∧ f' = f ∧ ∀ j, j < g.S → Cl g u f i j) ∨ (b' = true ∧ mu g f' < mu g f)) := by
  have hit := mIt_call1 (F := f_all_steps) (sl := slR g u s f b (lbS g i l [a10, a11, a12])) (i := 2) (d := .int g.n) (r := r) rfl (ok.steps r)
  obtain ⟨sl', h1, f', b', c10, c11, c12, rfl, h3, _, h5, h6⟩ := mFor_rel (t := .one 10) (body := rfStep) (r := r) g.st
    (fun Q sl => ∃ f' b' c10 c11 c12, sl = slR g u s f' b' (lbS g i l [c10, c11, c12]) ∧ Sd g u s f' ∧ lkA f' i = some l ∧ Sub f f' ∧ ((b' = b ∧ f' = f ∧ ∀ j ∈ Q, ∃ l', lkA f (g.nx i j) = some l' ∧ l'.p ≤ l.p + u.pr j) ∨ (b' = true ∧ mu g f' < mu g f)))
    (List.range g.S) (List.range g.S) [] (slR g u s f b (lbS g i l [a10, a11, a12])) rfl
    (fun P j rest sl hp ⟨f1, b1, d10, d11, d12, e1, q1, q2, q3, q4⟩ => by
      subst e1
      have hj : j < g.S := by
        have : j ∈ List.range g.S := by rw [← hp]; simp
        exact List.mem_range.mp this
      obtain ⟨f2, b2, c11, c12, w1, w2⟩ := rf_step ok nu hs (b := b1) (a11 := d11) (a12 := d12) (r := r) q1 q2 hj
      refine ⟨_, _, rfl, w1, f2, b2, _, c11, c12, rfl, ?_⟩
      rcases w2 with ⟨rfl, rfl, w3⟩ | ⟨w3, w4, w5, w6, w7⟩
      · refine ⟨q1, q2, q3, ?_⟩
        rcases q4 with ⟨z1, z2, z3⟩ | z
        · subst z1 z2
          refine .inl ⟨rfl, rfl, fun k hk => ?_⟩
          rcases List.mem_append.mp hk with hk | hk
          · exact z3 k hk
          · simp at hk; subst hk; exact w3
        · exact .inr z
      · refine ⟨w4, w5, fun k hk => w7 k (q3 k hk), .inr ⟨w3, ?_⟩⟩
        rcases q4 with ⟨z1, z2, z3⟩ | z
        · subst z2; exact w6
        · exact Nat.lt_trans w6 z.2)
    ⟨f, b, a10, a11, a12, rfl, sd, e, fun k hk => hk, .inl ⟨rfl, rfl, fun j hj => by cases hj⟩⟩
  refine ⟨f', b', c10, c11, c12, ?_, h3, h5, ?_⟩
  · rw [mForS_eq hit]
    exact h1
  · rcases h6 with ⟨z1, z2, z3⟩ | z
    · refine .inl ⟨z1, z2, fun j hj l2 hl => ?_⟩
      rw [e] at hl
      cases hl
      exact z3 j (List.mem_range.mpr hj)
    · exact .inr z
theorem rf_sweep (ok : GpOk g) (nu : NuOk g u) (hs : s < g.B) {f : List (Nat × Lb)} {a6 a7 a8 a9 a10 a11 a12 : Option SV} {r : Rw} (sd : Sd g u s f) :
    ∃ f' b' c6 c7 c8 c9 c10 c11 c12, rfSweep ⟨slR g u s f false [a6, a7, a8, a9, a10, a11, a12], r⟩ = some (.nx (slR g u s f' b' [c6, c7, c8, c9, c10, c11, c12]), r) ∧
      Sd g u s f' ∧ (b' = false → f' = f ∧ ∀ i j, j < g.S → Cl g u f i j) ∧ (b' = true → mu g f' < mu g f) := by
  have hlen : f.length ≤ 1000000 := by
    have h1 := nodup_len sd.nd sd.keys
    rw [List.length_map] at h1
    have := ok.b5
    omega
  have hkeys : (encA g.gs (encL g) f).map (·.1) = (f.map (·.1)).map g.gs := by
    unfold encA
    rw [List.map_map, List.map_map]; rfl
  have hsrt : sortable ((encA g.gs (encL g) f).map (·.1)) = true := by rw [hkeys]; exact sortable_gs ok sd.keys
  have hsort : isort leD ((encA g.gs (encL g) f).map (·.1)) = (isort leN (f.map (·.1))).map g.gs := by rw [hkeys]; exact isort_map ok.gle sd.keys
  have hl2 : (encA g.gs (encL g) f).length ≤ 1000000 := by unfold encA; rw [List.length_map]; exact hlen
  have hit := mIt_sort (sl := slR g u s f false [a6, a7, a8, a9, a10, a11, a12]) (i := 4) (r := r) (L := (isort leN (f.map (·.1))).map g.gs) rfl (by rw [gSortA_dT, hsrt, hsort]; simp [lim, hl2])
  obtain ⟨sl', h1, f', b', c6, c7, c8, c9, c10, c11, c12, rfl, h3, h4, h6⟩ := mFor_rel (t := .one 6) (body := (mSeq (mUnp [7, 8, 9] (mBin fIx (mVar 4) (mVar 6))) (mForS (.one 10) (mIt (mFn 1 f_all_steps (mCons (mVar 2) mNil))) rfStep))) (r := r) g.gs
    (fun P sl => ∃ f' b' c6 c7 c8 c9 c10 c11 c12, sl = slR g u s f' b' [c6, c7, c8, c9, c10, c11, c12] ∧ Sd g u s f' ∧ Sub f f' ∧ ((b' = false ∧ f' = f ∧ ∀ i ∈ P, ∀ j, j < g.S → Cl g u f i j) ∨ (b' = true ∧ mu g f' < mu g f)))
    (isort leN (f.map (·.1))) (isort leN (f.map (·.1))) [] (slR g u s f false [a6, a7, a8, a9, a10, a11, a12]) rfl
    (fun P i rest sl hp ⟨f1, b1, d6, d7, d8, d9, d10, d11, d12, e1, q1, q3, q4⟩ => by
      subst e1
      have hi0 : i ∈ f.map (·.1) := by
        have : i ∈ isort leN (f.map (·.1)) := by rw [← hp]; simp
        exact isort_mem.mp this
      obtain ⟨l, hl⟩ := lkA_key (q3 i hi0)
      have hi := q1.lt hl
      have hlook : lookT (encA g.gs (encL g) f1) (g.gs i) = some (encL g l) := by rw [look_enc ok.gkeq q1.keys hi, hl]; rfl
      obtain ⟨f2, b2, c10, c11, c12, w1, w2, w3, w4⟩ := rf_inner ok nu hs (b := b1) (a10 := d10) (a11 := d11) (a12 := d12) (r := r) q1 hl
      refine ⟨_, _, rfl, ?_, f2, b2, some (.dat (g.gs i)), some (.dat (.int l.p)), some (.dat (.int l.m)), some (.dat (.tup (l.row.map g.st))), c10, c11, c12, rfl, w2, fun k hk => w3 k (q3 k hk), ?_⟩
      · have hk := ok.gkey i hi
        have hx : fIx (encF g f1) (g.gs i) = some ⟨encL g l, .dat⟩ := by rw [fIx_dT, if_pos hk, hlook]; rfl
        have hu : mUnp [7, 8, 9] (mBin fIx (mVar 4) (mVar 6)) ⟨(slR g u s f1 b1 [d6, d7, d8, d9, d10, d11, d12]).set 6 (some (.dat (g.gs i))), r⟩ = some (.nx (slR g u s f1 b1 (lbS g i l [d10, d11, d12])), r) := by
          simp [mUnp, mBin, mVar, slR, lbS, hx, encL, setE, kept, datE]
        rw [mSeq_nx hu]
        exact w1
      · rcases q4 with ⟨z1, z2, z3⟩ | z
        · subst z1 z2
          rcases w4 with ⟨v1, v2, v3⟩ | v
          · subst v1 v2
            refine .inl ⟨rfl, rfl, fun k hk => ?_⟩
            rcases List.mem_append.mp hk with hk | hk
            · exact z3 k hk
            · simp at hk; subst hk; exact v3
          · exact .inr v
        · rcases w4 with ⟨v1, v2, v3⟩ | v
          · subst v1 v2; exact .inr z
          · exact .inr ⟨v.1, Nat.lt_trans v.2 z.2⟩)
    ⟨f, false, a6, a7, a8, a9, a10, a11, a12, rfl, sd, fun k hk => hk, .inl ⟨rfl, rfl, fun j hj => by cases hj⟩⟩
  refine ⟨f', b', c6, c7, c8, c9, c10, c11, c12, (mForS_eq hit).trans h1, h3, fun hb => ?_, fun hb => ?_⟩
  · rcases h6 with ⟨z1, z2, z3⟩ | z
    · refine ⟨z2, fun i j hj l hl => z3 i (isort_mem.mpr (List.mem_map.mpr ⟨_, lkA_mem hl, rfl⟩)) j hj l hl⟩
    · rw [z.1] at hb; cases hb
  · rcases h6 with ⟨z1, z2, z3⟩ | z
    · rw [z1] at hb; cases hb
    · exact z.2
theorem mu_le (ok : GpOk g) (nu : NuOk g u) (hs : s < g.B) {f : List (Nat × Lb)} (sd : Sd g u s f) : mu g f ≤ 1000 := by
  have h : ∀ t, po (lkA f t) ≤ 200 := by
    intro t
    cases hl : lkA f t with
    | none => exact Nat.le_refl _
    | some l =>
      have sh := sd.short ok hs hl
      obtain ⟨h1, _, h3, h4, _, _⟩ := sd.ok t l hl
      have cn := cost_nn ok nu h1
      rw [h3] at cn
      show (5 * l.p + l.m).toNat ≤ 200
      rw [h4]
      omega
  have : ∀ L : List Nat, (L.map fun t => po (lkA f t)).sum ≤ 200 * L.length := by
    intro L
    induction L with
    | nil => simp
    | cons a L ih => simp only [List.map_cons, List.sum_cons, List.length_cons]; have := h a; omega
  have h2 := this (List.range g.B)
  rw [List.length_range] at h2
  have := ok.b5
  unfold mu
  omega
theorem rf_while (ok : GpOk g) (nu : NuOk g u) (hs : s < g.B) (r : Rw) {n : Nat} (hn : 2000 < n) : ∃ f sl', mWh (mTr (mVar 5)) (mSeq (mAsg 5 (mCst (.bl false))) rfSweep) n ⟨slR g u s [(s, ⟨0, 0, []⟩)] true [none, none, none, none, none, none, none], r⟩ = some (.nx sl', r) ∧ sl'[4]? = some (some (.own (encF g f))) ∧ Sd g u s f ∧ ∀ i j, j < g.S → Cl g u f i j := by
  have sd0 : Sd g u s [(s, ⟨0, 0, []⟩)] := by
    refine ⟨fun i hi => ?_, by simp, ⟨⟨0, 0, []⟩, by simp [lkA], Int.le_refl _⟩, fun i l hl => ?_⟩
    · simp at hi; subst hi; exact hs
    · rw [lkA_cons, lkA_nil] at hl
      split at hl
      · rename_i h
        cases hl
        refine ⟨fun j hj => (nomatch hj), h, rfl, rfl, fun k hk => ?_, by simp [nodes]⟩
        have : k = 0 := by simpa using hk
        subst this
        exact ⟨⟨0, 0, []⟩, by simp [wk, lkA_cons], .inr ⟨rfl, Int.le_refl _⟩⟩
      · cases hl
  obtain ⟨⟨f, b⟩, sl', h1, ⟨⟨a6, a7, a8, a9, a10, a11, a12, rfl⟩, h3, h4⟩, h5⟩ := mWh_sim (t := mTr (mVar 5)) (body := (mSeq (mAsg 5 (mCst (.bl false))) rfSweep)) (r := r)
    (fun (x : List (Nat × Lb) × Bool) sl => (∃ a6 a7 a8 a9 a10 a11 a12, sl = slR g u s x.1 x.2 [a6, a7, a8, a9, a10, a11, a12]) ∧ Sd g u s x.1 ∧ (x.2 = false → ∀ i j, j < g.S → Cl g u x.1 i j)) (fun x => mu g x.1) (fun x => x.2)
    (fun x sl ⟨⟨a6, a7, a8, a9, a10, a11, a12, e⟩, _⟩ => by
      subst e
      simp [mTr, mVar, slR, truD])
    (fun x sl ⟨⟨a6, a7, a8, a9, a10, a11, a12, e⟩, q1, q2⟩ hc => by
      subst e
      obtain ⟨f', b', c6, c7, c8, c9, c10, c11, c12, w1, w2, w3, w4⟩ := rf_sweep ok nu hs (a6 := a6) (a7 := a7) (a8 := a8) (a9 := a9) (a10 := a10) (a11 := a11) (a12 := a12) (r := r) q1
      refine ⟨(f', b'), _, ?_, ⟨⟨c6, c7, c8, c9, c10, c11, c12, rfl⟩, w2, fun hb => ?_⟩, w4⟩
      · have h0 : mAsg 5 (mCst (.bl false)) ⟨slR g u s x.1 x.2 [a6, a7, a8, a9, a10, a11, a12], r⟩ = some (.nx (slR g u s x.1 false [a6, a7, a8, a9, a10, a11, a12]), r) := by simp [mAsg, mCst, slR, kept]
        rw [mSeq_nx h0]
        exact w1
      · obtain ⟨z1, z2⟩ := w3 hb
        rw [z1]; exact z2)
    n ([(s, ⟨0, 0, []⟩)], true) (slR g u s [(s, ⟨0, 0, []⟩)] true [none, none, none, none, none, none, none]) (fun _ => by have := mu_le ok nu hs sd0; show mu g [(s, ⟨0, 0, []⟩)] + 1 < n; omega) (by omega) ⟨⟨_, _, _, _, _, _, _, rfl⟩, sd0, fun h => by cases h⟩
  exact ⟨f, _, h1, rfl, h3, h4 h5⟩
theorem rf_start {F1 F2 : MF} {rest : MSt} {r : Rw} (hk : keyOk (g.gs s) = true) (h1 : F1 [g.gs s] r = some (⟨.int g.n, .dat⟩, r)) (h2 : F2 [.int g.n, u.ps] r = some (⟨.dT (tabD g u), .new⟩, r)) :
    (mSeq (mAsg 2 (mFn 1 F1 (mCons (mVar 0) mNil))) (mSeq (mAsg 3 (mFn 2 F2 (mCons (mVar 2) (mCons (mVar 1) mNil)))) (mSeq (mPar [4, 5] (mCons (mD1 (mVar 0) (mTup (mCons (mCst (.int 0)) (mCons (mCst (.int 0)) (mCons (mTup mNil) mNil))))) (mCons (mCst (.bl true)) mNil))) rest)))
      ⟨[some (.dat (g.gs s)), some (.dat u.ps), none, none, none, none, none, none, none, none, none, none, none], r⟩ = rest ⟨slR g u s [(s, ⟨0, 0, []⟩)] true [none, none, none, none, none, none, none], r⟩ := by
  simp [mSeq, mAsg, mPar, mUnp, mCons, mNil, mStar, mFn, mVar, mCst, mTup, mLst, mBin, mIfS, mIf, mTb, mTr, mTNot, mTOr, mTAnd, mAnd, mOr, mNot, mIs, mCall, f1, mNext, mRet, mRetVar, mDrop, evI, evB, datE, kept, setE, noBor_nil, noBor_cons, noBor_new, noBor_map, mapd_map, noBorK, fAdd, fSub, fMul, fMulI, fDiv, fMod, fInt, fCatL, fCatT, fLt, fLtI, fLtT, fLe, fGt, fGe, fIsN, isNon, fIsNB, ownAt, mApp, mPutT, mPutI, mSetI, frz, mFrz, truD, intsD, isTupD, isIntD, isBoolD, isStrD, isListD, isTLD, itemsD, gLen, gInt, gTuple, mNeg, mChain, mBrk, lim, mSl, mOSome, mONone, bindT, mNever, mTb, h1, h2, mD1, hk, slR, encF, encA, encL]
theorem ret_own {sl : Sl} {i : Nat} {d : D} {r : Rw} (h : sl[i]? = some (some (.own d))) : mRetVar i ⟨sl, r⟩ = some (.rt ⟨d, .new⟩, r) := by
  simp [mRetVar, h]
theorem ret_dat {sl : Sl} {i : Nat} {d : D} {r : Rw} (h : sl[i]? = some (some (.dat d))) : mRetVar i ⟨sl, r⟩ = some (.rt ⟨d, .dat⟩, r) := by
  simp [mRetVar, h]
theorem rows_from_ok (ok : GpOk g) (nu : NuOk g u) (hs : s < g.B) (r : Rw) : ∃ f, f_rows_from [g.gs s, u.ps] r = some (⟨encF g f, .new⟩, r) ∧ Sd g u s f ∧ ∀ i j, j < g.S → Cl g u f i j := by
  obtain ⟨f, sl', h1, h2, h3, h4⟩ := rf_while ok nu hs r (n := 10000) (by omega)
  refine ⟨f, mBody_rt rfl ?_, h3, h4⟩
  rw [rf_eq]
  refine (rf_start (F1 := f_size_of) (F2 := f_price_table) (ok.gkey s hs) (ok.size s r hs) (nu.ptab r)).trans ?_
  rw [mSeq_nx h1]
  exact ret_own h2
end
end GD
/-! Ke -/
set_option maxHeartbeats 4000000
/-! Ke: net_of, best_net. -/
namespace GD
open PySem L2
section
variable {g : Gp} {u : Nu} {s : Nat}
theorem mBody_nx {n : Nat} {m : MSt} {ds : List D} {r r' : Rw} {sl sl' : Sl} (hsl : ds.map (fun d => some (SV.dat d)) ++ List.replicate (n - ds.length) none = sl) (h : m ⟨sl, r⟩ = some (.nx sl', r')) : mBody n m ds r = some (⟨.non, .dat⟩, r') := by
  subst hsl
  unfold mBody
  rw [h]; rfl
def val (g : Gp) (u : Nu) (s : Nat) (w : List Nat) : Int := u.W (wk g s w) - cost u w
theorem reach {f : List (Nat × Lb)} (sd : Sd g u s f) (cl : ∀ i j, j < g.S → Cl g u f i j) (w : List Nat) : valid g w → ∃ l, lkA f (wk g s w) = some l ∧ l.p ≤ cost u w := by
  have : ∀ w : List Nat, valid g w.reverse → ∃ l, lkA f (wk g s w.reverse) = some l ∧ l.p ≤ cost u w.reverse := by
    intro w
    induction w with
    | nil =>
      intro _
      obtain ⟨l, h1, h2⟩ := sd.start
      exact ⟨l, h1, by simpa [cost] using h2⟩
    | cons j w ih =>
      intro hv
      rw [List.reverse_cons] at hv ⊢
      obtain ⟨l, h1, h2⟩ := ih fun k hk => hv k (List.mem_append_left _ hk)
      obtain ⟨l', h3, h4⟩ := cl (wk g s w.reverse) j (hv j (by simp)) l h1
      rw [wk_snoc, cost_snoc]
      exact ⟨l', h3, by omega⟩
  have h := this w.reverse
  rw [List.reverse_reverse] at h
  exact h
def slN (g : Gp) (u : Nu) (s : Nat) (f : List (Nat × Lb)) (bd : D) (t : Sl) : Sl := some (.dat (g.gs s)) :: some (.dat u.lk) :: some (.dat u.ps) :: some (.own (encF g f)) :: some (.dat bd) :: t
def bestD (g : Gp) (b : Int) (w : List Nat) : D := .tup [.int b, .tup (w.map g.st)]
theorem net_step {F : MF} {f : List (Nat × Lb)} {i : Nat} {l : Lb} {bd : D} {a5 a6 : Option SV} {r : Rw} {bo : Option (Int × List Nat)} (hb : bd = match bo with | none => .non | some q => bestD g q.1 q.2) (hF : F [g.gs i, u.lk] r = some (⟨.int (u.W i), .dat⟩, r)) (hx : fIx (encF g f) (g.gs i) = some ⟨encL g l, .dat⟩) :
    (mSeq (mAsg 6 (mBin fSub (mFn 2 F (mCons (mVar 5) (mCons (mVar 1) mNil))) (mBin fIx (mBin fIx (mVar 3) (mVar 5)) (mCst (.int 0)))))
 (mIfS (mTOr (mTb (mBin fIsN (mVar 4) (mCst .non))) (mTb (mBin fGt (mVar 6) (mBin fIx (mVar 4) (mCst (.int 0))))))
 (mAsg 4 (mTup (mCons (mVar 6) (mCons (mBin fIx (mBin fIx (mVar 3) (mVar 5)) (mCst (.int 2))) mNil))))
 mNext)) ⟨slN g u s f bd [some (.dat (g.gs i)), a6], r⟩ = some (.nx (slN g u s f (match bo with | none => bestD g (u.W i - l.p) l.row | some q => if q.1 < u.W i - l.p then bestD g (u.W i - l.p) l.row else bestD g q.1 q.2) [some (.dat (g.gs i)), some (.dat (.int (u.W i - l.p)))]), r) := by
  have h0 : fIx (encL g l) (.int 0) = some ⟨.int l.p, .dat⟩ := rfl
  have h2 : fIx (encL g l) (.int 2) = some ⟨.tup (l.row.map g.st), .dat⟩ := rfl
  subst hb
  cases bo with
  | none => simp [mSeq, mAsg, mPar, mUnp, mCons, mNil, mStar, mFn, mVar, mCst, mTup, mLst, mBin, mIfS, mIf, mTb, mTr, mTNot, mTOr, mTAnd, mAnd, mOr, mNot, mIs, mCall, f1, mNext, mRet, mRetVar, mDrop, evI, evB, datE, kept, setE, noBor_nil, noBor_cons, noBor_new, noBor_map, mapd_map, noBorK, fAdd, fSub, fMul, fMulI, fDiv, fMod, fInt, fCatL, fCatT, fLt, fLtI, fLtT, fLe, fGt, fGe, fIsN, isNon, fIsNB, ownAt, mApp, mPutT, mPutI, mSetI, frz, mFrz, truD, intsD, isTupD, isIntD, isBoolD, isStrD, isListD, isTLD, itemsD, gLen, gInt, gTuple, mNeg, mChain, mBrk, lim, mSl, mOSome, mONone, bindT, mNever, mTb, slN, hF, hx, h0, h2, bestD]
  | some q =>
    have h3 : fIx (bestD g q.1 q.2) (.int 0) = some ⟨.int q.1, .dat⟩ := rfl
    have h4 : fIsN (bestD g q.1 q.2) .non = some ⟨.bl false, .dat⟩ := rfl
    by_cases h : q.1 < u.W i - l.p
    · simp [mSeq, mAsg, mBin, mFn, mCons, mNil, mVar, mCst, mIfS, mTOr, mTb, fSub, fGt, fInt, kept, evI, evB, noBor_nil, noBor_cons, noBorK, mTup, lim, slN, hF, hx, h0, h2, h3, h4, h]
      rfl
    · simp [mSeq, mAsg, mBin, mFn, mCons, mNil, mVar, mCst, mIfS, mTOr, mTb, fSub, fGt, fInt, kept, evI, evB, noBor_nil, noBor_cons, noBorK, mTup, mNext, lim, slN, hF, hx, h0, h2, h3, h4, h]
theorem net_start {F : MF} {f : List (Nat × Lb)} {r : Rw} (hF : F [g.gs s, u.ps] r = some (⟨encF g f, .new⟩, r)) : mPar [3, 4] (mCons (mFn 2 F (mCons (mVar 0) (mCons (mVar 2) mNil))) (mCons (mCst .non) mNil)) ⟨[some (.dat (g.gs s)), some (.dat u.lk), some (.dat u.ps), none, none, none, none], r⟩ = some (.nx (slN g u s f .non [none, none]), r) := by
  simp [mSeq, mAsg, mPar, mUnp, mCons, mNil, mStar, mFn, mVar, mCst, mTup, mLst, mBin, mIfS, mIf, mTb, mTr, mTNot, mTOr, mTAnd, mAnd, mOr, mNot, mIs, mCall, f1, mNext, mRet, mRetVar, mDrop, evI, evB, datE, kept, setE, noBor_nil, noBor_cons, noBor_new, noBor_map, mapd_map, noBorK, fAdd, fSub, fMul, fMulI, fDiv, fMod, fInt, fCatL, fCatT, fLt, fLtI, fLtT, fLe, fGt, fGe, fIsN, isNon, fIsNB, ownAt, mApp, mPutT, mPutI, mSetI, frz, mFrz, truD, intsD, isTupD, isIntD, isBoolD, isStrD, isListD, isTLD, itemsD, gLen, gInt, gTuple, mNeg, mChain, mBrk, lim, mSl, mOSome, mONone, bindT, mNever, mTb, slN, hF]
theorem net_of_ok (ok : GpOk g) (nu : NuOk g u) (hs : s < g.B) (r : Rw) : ∃ b w, f_net_of [g.gs s, u.lk, u.ps] r = some (⟨bestD g b w, .dat⟩, r) ∧ valid g w ∧ w.length ≤ 4 ∧ val g u s w = b ∧ ∀ w', valid g w' → val g u s w' ≤ b := by
  obtain ⟨f, h1, sd, cl⟩ := rows_from_ok ok nu hs r
  have hlen : f.length ≤ 1000000 := by
    have h1 := nodup_len sd.nd sd.keys
    rw [List.length_map] at h1
    have := ok.b5
    omega
  have hkeys : (encA g.gs (encL g) f).map (·.1) = (f.map (·.1)).map g.gs := by
    unfold encA
    rw [List.map_map, List.map_map]; rfl
  have hsrt : sortable ((encA g.gs (encL g) f).map (·.1)) = true := by rw [hkeys]; exact sortable_gs ok sd.keys
  have hsort : isort leD ((encA g.gs (encL g) f).map (·.1)) = (isort leN (f.map (·.1))).map g.gs := by rw [hkeys]; exact isort_map ok.gle sd.keys
  have hl2 : (encA g.gs (encL g) f).length ≤ 1000000 := by unfold encA; rw [List.length_map]; exact hlen
  have hit := mIt_sort (sl := slN g u s f .non [none, none]) (i := 3) (r := r) (L := (isort leN (f.map (·.1))).map g.gs) rfl (by rw [gSortA_dT, hsrt, hsort]; simp [lim, hl2])
  obtain ⟨sl', h2, bo, a5, a6, e1, h3⟩ := mFor_rel (t := .one 5) (body := (mSeq (mAsg 6 (mBin fSub (mFn 2 f_worth_of (mCons (mVar 5) (mCons (mVar 1) mNil))) (mBin fIx (mBin fIx (mVar 3) (mVar 5)) (mCst (.int 0)))))
 (mIfS (mTOr (mTb (mBin fIsN (mVar 4) (mCst .non))) (mTb (mBin fGt (mVar 6) (mBin fIx (mVar 4) (mCst (.int 0))))))
 (mAsg 4 (mTup (mCons (mVar 6) (mCons (mBin fIx (mBin fIx (mVar 3) (mVar 5)) (mCst (.int 2))) mNil))))
 mNext))) (r := r) g.gs
    (fun P sl => ∃ (bo : Option (Int × List Nat)) (a5 a6 : Option SV), sl = slN g u s f (match bo with | none => .non | some q => bestD g q.1 q.2) [a5, a6] ∧
      (match bo with | none => P = [] | some q => (∃ i l, lkA f i = some l ∧ q.1 = u.W i - l.p ∧ q.2 = l.row) ∧ ∀ i ∈ P, ∀ l, lkA f i = some l → u.W i - l.p ≤ q.1))
    (isort leN (f.map (·.1))) (isort leN (f.map (·.1))) [] (slN g u s f .non [none, none]) rfl
    (fun P i rest sl hp ⟨bo, a5, a6, e, q⟩ => by
      subst e
      have hi0 : i ∈ f.map (·.1) := by
        have : i ∈ isort leN (f.map (·.1)) := by rw [← hp]; simp
        exact isort_mem.mp this
      obtain ⟨l, hl⟩ := lkA_key hi0
      have hi := sd.lt hl
      have hx : fIx (encF g f) (g.gs i) = some ⟨encL g l, .dat⟩ := by rw [fIx_dT, if_pos (ok.gkey i hi), look_enc ok.gkeq sd.keys hi, hl]; rfl
      refine ⟨_, _, rfl, net_step (bo := bo) (a5 := a5) (a6 := a6) rfl (nu.worth i r hi) hx, ?_⟩
      cases bo with
      | none =>
        refine ⟨some (u.W i - l.p, l.row), _, _, rfl, ⟨i, l, hl, rfl, rfl⟩, fun k hk lk hlk => ?_⟩
        have hP : P = [] := q
        subst hP
        simp at hk
        subst hk
        rw [hl] at hlk
        cases hlk
        exact Int.le_refl _
      | some qq =>
        by_cases h : qq.1 < u.W i - l.p
        · refine ⟨some (u.W i - l.p, l.row), some (.dat (g.gs i)), some (.dat (.int (u.W i - l.p))), by simp only [h, if_true], ⟨i, l, hl, rfl, rfl⟩, fun k hk lk hlk => ?_⟩
          rcases List.mem_append.mp hk with hk | hk
          · have := q.2 k hk lk hlk
            show _ ≤ u.W i - l.p
            omega
          · simp at hk
            subst hk
            rw [hl] at hlk
            cases hlk
            exact Int.le_refl _
        · refine ⟨some qq, some (.dat (g.gs i)), some (.dat (.int (u.W i - l.p))), by simp only [h, if_false], q.1, fun k hk lk hlk => ?_⟩
          rcases List.mem_append.mp hk with hk | hk
          · exact q.2 k hk lk hlk
          · simp at hk
            subst hk
            rw [hl] at hlk
            cases hlk
            omega)
    ⟨none, none, none, rfl, rfl⟩
  subst e1
  obtain ⟨l0, s1, _⟩ := sd.start
  have hs0 : s ∈ isort leN (f.map (·.1)) := isort_mem.mpr (List.mem_map.mpr ⟨_, lkA_mem s1, rfl⟩)
  cases bo with
  | none =>
    have h3 : isort leN (f.map (·.1)) = [] := h3
    rw [h3] at hs0
    cases hs0
  | some q =>
    obtain ⟨⟨i, l, q1, q2, q3⟩, q4⟩ := h3
    obtain ⟨o1, o2, o3, _, _, _⟩ := sd.ok i l q1
    refine ⟨q.1, q.2, mBody_rt (sl := [some (.dat (g.gs s)), some (.dat u.lk), some (.dat u.ps), none, none, none, none]) rfl ?_, by rw [q3]; exact o1, by rw [q3]; exact sd.short ok hs q1, by unfold val; rw [q3, o2, o3, q2], fun w' hv => ?_⟩
    · unfold m_net_of
      rw [mSeq_nx (net_start h1), mSeq_nx ((mForS_eq hit).trans h2)]
      exact ret_dat rfl
    · obtain ⟨l2, r1, r2⟩ := reach sd cl w' hv
      have := q4 (wk g s w') (isort_mem.mpr (List.mem_map.mpr ⟨_, lkA_mem r1, rfl⟩)) l2 r1
      unfold val
      omega
theorem need_net_sim {F1 F2 F3 F4 : MF} {a b c d : D} {r : Rw} (h1 : F1 [a] r = some (⟨.non, .dat⟩, r)) (h2 : F2 [a] r = some (⟨d, .dat⟩, r)) (h3 : F3 [d, b] r = some (⟨.non, .dat⟩, r)) (h4 : F4 [d, c] r = some (⟨.non, .dat⟩, r)) :
    (mSeq (mDrop (mFn 1 F1 (mCons (mVar 0) mNil)))
 (mSeq (mDrop (mFn 2 F3 (mCons (mFn 1 F2 (mCons (mVar 0) mNil)) (mCons (mVar 1) mNil))))
 (mDrop (mFn 2 F4 (mCons (mFn 1 F2 (mCons (mVar 0) mNil)) (mCons (mVar 2) mNil)))))) ⟨[some (.dat a), some (.dat b), some (.dat c)], r⟩ = some (.nx [some (.dat a), some (.dat b), some (.dat c)], r) := by
  simp [mSeq, mAsg, mPar, mUnp, mCons, mNil, mStar, mFn, mVar, mCst, mTup, mLst, mBin, mIfS, mIf, mTb, mTr, mTNot, mTOr, mTAnd, mAnd, mOr, mNot, mIs, mCall, f1, mNext, mRet, mRetVar, mDrop, evI, evB, datE, kept, setE, noBor_nil, noBor_cons, noBor_new, noBor_map, mapd_map, noBorK, fAdd, fSub, fMul, fMulI, fDiv, fMod, fInt, fCatL, fCatT, fLt, fLtI, fLtT, fLe, fGt, fGe, fIsN, isNon, fIsNB, ownAt, mApp, mPutT, mPutI, mSetI, frz, mFrz, truD, intsD, isTupD, isIntD, isBoolD, isStrD, isListD, isTLD, itemsD, gLen, gInt, gTuple, mNeg, mChain, mBrk, lim, mSl, mOSome, mONone, bindT, mNever, mTb, h1, h2, h3, h4]
theorem need_net_ok (ok : GpOk g) (nu : NuOk g u) (hs : s < g.B) (r : Rw) : f_need_net [g.gs s, u.lk, u.ps] r = some (⟨.non, .dat⟩, r) :=
  mBody_nx rfl (need_net_sim (ok.needg s r hs) (ok.size s r hs) (nu.needl r) (nu.needp r))
theorem best_net_sim {F1 F2 : MF} {a b c e d : D} {r : Rw} (h1 : F1 [a, b, c] r = some (⟨d, .dat⟩, r)) (h2 : F2 [a, b, c] r = some (⟨e, .dat⟩, r)) : (mSeq (mDrop (mFn 3 F1 (mCons (mVar 0) (mCons (mVar 1) (mCons (mVar 2) mNil)))))
 (mRet (mFn 3 F2 (mCons (mVar 0) (mCons (mVar 1) (mCons (mVar 2) mNil)))))) ⟨[some (.dat a), some (.dat b), some (.dat c)], r⟩ = some (.rt ⟨e, .dat⟩, r) := by
  simp [mSeq, mAsg, mPar, mUnp, mCons, mNil, mStar, mFn, mVar, mCst, mTup, mLst, mBin, mIfS, mIf, mTb, mTr, mTNot, mTOr, mTAnd, mAnd, mOr, mNot, mIs, mCall, f1, mNext, mRet, mRetVar, mDrop, evI, evB, datE, kept, setE, noBor_nil, noBor_cons, noBor_new, noBor_map, mapd_map, noBorK, fAdd, fSub, fMul, fMulI, fDiv, fMod, fInt, fCatL, fCatT, fLt, fLtI, fLtT, fLe, fGt, fGe, fIsN, isNon, fIsNB, ownAt, mApp, mPutT, mPutI, mSetI, frz, mFrz, truD, intsD, isTupD, isIntD, isBoolD, isStrD, isListD, isTLD, itemsD, gLen, gInt, gTuple, mNeg, mChain, mBrk, lim, mSl, mOSome, mONone, bindT, mNever, mTb, h1, h2]
theorem best_net_ok (ok : GpOk g) (nu : NuOk g u) (hs : s < g.B) {r : Rw} {e : D} (h : f_net_of [g.gs s, u.lk, u.ps] r = some (⟨e, .dat⟩, r)) : f_best_net [g.gs s, u.lk, u.ps] r = some (⟨e, .dat⟩, r) :=
  mBody_rt rfl (best_net_sim (need_net_ok ok nu hs r) h)
end
end GD
/-! Kf -/
set_option maxHeartbeats 4000000
/-! Kf: price_of, trace, are_steps, shows_best_net. -/
namespace GD
open PySem L2
section
variable {g : Gp} {u : Nu} {s : Nat}
abbrev wdD (g : Gp) (w : List Nat) : D := .tup (w.map g.st)
/-! ### price_of -/
theorem foldl_add : ∀ (l : List Int) (a : Int), l.foldl (· + ·) a = a + l.sum
  | [], a => by simp
  | i :: l, a => by rw [List.foldl_cons, foldl_add, List.sum_cons, Int.add_assoc]
theorem sumOk_small : ∀ (l : List Int) (a : Int), 0 ≤ a → (∀ i ∈ l, 0 ≤ i ∧ i ≤ 5) → a + 5 * l.length ≤ 1000000 → sumOk a l = true
  | [], _, _, _, _ => rfl
  | i :: l, a, h0, h1, h2 => by
    have h3 := h1 i List.mem_cons_self
    rw [List.length_cons] at h2
    have h4 := sumOk_small l (a + i) (by omega) (fun k hk => h1 k (List.mem_cons_of_mem _ hk)) (by omega)
    unfold sumOk
    rw [h4, Bool.and_true, Bool.and_eq_true]
    unfold fitI
    constructor <;> simp <;> omega
theorem mapM_ints : ∀ l : List Int, (l.map D.int).mapM asIn = some l
  | [] => rfl
  | i :: l => by simp [List.mapM_cons, asIn, mapM_ints l]
theorem price_sim {F : MF} {n : D} {ps : D} {w : List Nat} {r : Rw} (hF : F [n, ps] r = some (⟨.dT (tabD g u), .new⟩, r)) (hx : ∀ j, j ∈ w → fIx (.dT (tabD g u)) (g.st j) = some ⟨.int (u.pr j), .dat⟩) (hk : sumOk 0 (w.map u.pr) = true) :
    (mSeq (mAsg 3 (mFn 2 F (mCons (mVar 0) (mCons (mVar 1) mNil)))) (mRet (mSumG (.one 4) [4] (mIt (mVar 2)) (mBin fIx (mVar 3) (mVar 4))))) ⟨[some (.dat n), some (.dat ps), some (.dat (wdD g w)), none, none], r⟩ = some (.rt ⟨.int (cost u w), .dat⟩, r) := by
  have h1 : mAsg 3 (mFn 2 F (mCons (mVar 0) (mCons (mVar 1) mNil))) ⟨[some (.dat n), some (.dat ps), some (.dat (wdD g w)), none, none], r⟩ = some (.nx [some (.dat n), some (.dat ps), some (.dat (wdD g w)), some (.own (.dT (tabD g u))), none], r) := by
    simp [mSeq, mAsg, mPar, mUnp, mCons, mNil, mStar, mFn, mVar, mCst, mTup, mLst, mBin, mIfS, mIf, mTb, mTr, mTNot, mTOr, mTAnd, mAnd, mOr, mNot, mIs, mCall, f1, mNext, mRet, mRetVar, mDrop, evI, evB, datE, kept, setE, noBor_nil, noBor_cons, noBor_new, noBor_map, mapd_map, noBorK, fAdd, fSub, fMul, fMulI, fDiv, fMod, fInt, fCatL, fCatT, fLt, fLtI, fLtT, fLe, fGt, fGe, fIsN, isNon, fIsNB, ownAt, mApp, mPutT, mPutI, mSetI, frz, mFrz, truD, intsD, isTupD, isIntD, isBoolD, isStrD, isListD, isTLD, itemsD, gLen, gInt, gTuple, mNeg, mChain, mBrk, lim, mSl, mOSome, mONone, bindT, mNever, mTb, hF]
  rw [mSeq_nx h1]
  have h2 : gVals (.one 4) (mBin fIx (mVar 3) (mVar 4)) (wipeS [some (.dat n), some (.dat ps), some (.dat (wdD g w)), some (.own (.dT (tabD g u))), none] [4]) r (w.map g.st) = some ((w.map u.pr).map D.int) := by
    rw [List.map_map]
    refine gVals_map g.st (D.int ∘ u.pr) fun j hj => ⟨_, .dat, rfl, ?_⟩
    simp [mBin, mVar, wipeS, hx j hj]
  have h3 : mSumG (.one 4) [4] (mIt (mVar 2)) (mBin fIx (mVar 3) (mVar 4)) ⟨[some (.dat n), some (.dat ps), some (.dat (wdD g w)), some (.own (.dT (tabD g u))), none], r⟩ = some (⟨.int (cost u w), .dat⟩, r) := by
    unfold mSumG mGen
    have : mIt (mVar 2) ⟨[some (.dat n), some (.dat ps), some (.dat (wdD g w)), some (.own (.dT (tabD g u))), none], r⟩ = some (w.map g.st, true, r) := rfl
    rw [this, Option.bind_some]
    simp only
    rw [h2, Option.bind_some, mapM_ints, Option.bind_some, if_pos hk]
    simp only [Option.map_some, evI]
    rw [foldl_add, Int.zero_add]; rfl
  unfold mRet
  rw [h3]; rfl
theorem price_of_ok (ok : GpOk g) (nu : NuOk g u) {w : List Nat} (hv : valid g w) (hl : w.length ≤ 300) (r : Rw) : f_price_of [.int g.n, u.ps, wdD g w] r = some (⟨.int (cost u w), .dat⟩, r) :=
  mBody_rt (sl := [some (.dat (.int g.n)), some (.dat u.ps), some (.dat (wdD g w)), none, none]) rfl (price_sim (nu.ptab r) (fun j hj => fIx_tab ok nu (hv j hj)) (sumOk_small _ 0 (Int.le_refl _) (fun i hi => by
    obtain ⟨j, hj, rfl⟩ := List.mem_map.mp hi
    exact nu.pr0 j (hv j hj)) (by rw [List.length_map]; omega)))
/-! ### trace -/
theorem nodes_last (w : List Nat) : ∃ I, nodes g s w = I ++ [wk g s w] := by
  unfold nodes
  rw [List.range_succ, List.map_append]
  refine ⟨List.map (fun k => wk g s (List.take k w)) (List.range w.length), ?_⟩
  simp only [List.map_cons, List.map_nil, List.take_length]
theorem nodes_len (w : List Nat) : (nodes g s w).length = w.length + 1 := by unfold nodes; rw [List.length_map, List.length_range]
theorem atI_last {α : Type} (I : List α) (x : α) : L2.atI (I ++ [x]) (-1) = some x := by
  unfold L2.atI L2.ixN
  have h : ¬ (0 : Int) ≤ -1 := by omega
  have h2 : -((I ++ [x]).length : Int) ≤ -1 := by rw [List.length_append, List.length_singleton]; omega
  rw [if_neg h, if_pos h2]
  have h3 : ((-1 : Int) + ((I ++ [x]).length : Int)).toNat = I.length := by rw [List.length_append, List.length_singleton]; omega
  rw [Option.bind_some, h3]
  simp
theorem fIx_lst (l : List D) (i : Int) : fIx (.lst l) (.int i) = (L2.atI l i).map datE := by
  have h : fIx (.lst l) (.int i) = ((L2.atI l i).map datE).or none := rfl
  rw [h, Option.or_none]
theorem fIx_tup (l : List D) (i : Int) : fIx (.tup l) (.int i) = (L2.atI l i).map datE := by
  have h : fIx (.tup l) (.int i) = ((L2.atI l i).map datE).or none := rfl
  rw [h, Option.or_none]
theorem fIx_last (I : List D) (x : D) : fIx (.lst (I ++ [x])) (.int (-1)) = some ⟨x, .dat⟩ := by
  rw [fIx_lst, atI_last]; rfl
theorem trace_loop {F : MF} {w : List Nat} {r : Rw} (hs : s < g.B) (ok : GpOk g) (hv : valid g w) (hl : w.length ≤ 300) (hF : ∀ i j r, i < g.B → j < g.S → F [g.gs i, g.st j] r = some (⟨g.gs (g.nx i j), .dat⟩, r)) :
    ∃ sl', mFor (.one 3) (mApp 2 (mFn 2 F (mCons (mBin fIx (mVar 2) (mNeg (mCst (.int 1)))) (mCons (mVar 3) mNil)))) (w.map g.st) [some (.dat (g.gs s)), some (.dat (wdD g w)), some (.own (.lst [g.gs s])), none] r = some (.nx sl', r) ∧ sl'[2]? = some (some (.own (.lst ((nodes g s w).map g.gs)))) := by
  obtain ⟨sl', h1, a3, rfl⟩ := mFor_rel (t := .one 3) (body := mApp 2 (mFn 2 F (mCons (mBin fIx (mVar 2) (mNeg (mCst (.int 1)))) (mCons (mVar 3) mNil)))) (r := r) g.st
    (fun P sl => ∃ a3, sl = [some (.dat (g.gs s)), some (.dat (wdD g w)), some (.own (.lst ((nodes g s P).map g.gs))), a3]) w w [] [some (.dat (g.gs s)), some (.dat (wdD g w)), some (.own (.lst [g.gs s])), none] rfl
    (fun P j rest sl hp ⟨a3, e⟩ => by
      subst e
      have hj : j < g.S := hv j (by rw [← hp]; simp)
      have hvP : valid g P := fun k hk => hv k (by rw [← hp]; simp [hk])
      have hi := wk_lt ok hs hvP
      obtain ⟨I, hI⟩ := nodes_last (g := g) (s := s) P
      have hx : fIx (.lst ((nodes g s P).map g.gs)) (.int (-1)) = some ⟨g.gs (wk g s P), .dat⟩ := by
        rw [hI, List.map_append]; exact fIx_last _ _
      have hlen : ((nodes g s P).map g.gs).length < 1000000 := by
        rw [List.length_map, nodes_len]
        have : P.length ≤ w.length := by rw [← hp]; simp
        omega
      have hlen2 : (nodes g s P).length < 1000000 := by rw [List.length_map] at hlen; exact hlen
      refine ⟨_, _, rfl, ?_, some (.dat (g.st j)), rfl⟩
      rw [nodes_snoc]
      simp [mSeq, mAsg, mPar, mUnp, mCons, mNil, mStar, mFn, mVar, mCst, mTup, mLst, mBin, mIfS, mIf, mTb, mTr, mTNot, mTOr, mTAnd, mAnd, mOr, mNot, mIs, mCall, f1, mNext, mRet, mRetVar, mDrop, evI, evB, datE, kept, setE, noBor_nil, noBor_cons, noBor_new, noBor_map, mapd_map, noBorK, fAdd, fSub, fMul, fMulI, fDiv, fMod, fInt, fCatL, fCatT, fLt, fLtI, fLtT, fLe, fGt, fGe, fIsN, isNon, fIsNB, ownAt, mApp, mPutT, mPutI, mSetI, frz, mFrz, truD, intsD, isTupD, isIntD, isBoolD, isStrD, isListD, isTLD, itemsD, gLen, gInt, gTuple, mNeg, mChain, mBrk, lim, mSl, mOSome, mONone, bindT, mNever, mTb, hx, hF _ _ r hi hj, hlen2])
    ⟨none, by simp [nodes, wk]⟩
  exact ⟨_, h1, rfl⟩
theorem trace_ok (ok : GpOk g) (hs : s < g.B) {w : List Nat} (hv : valid g w) (hl : w.length ≤ 300) (r : Rw) : f_trace [g.gs s, wdD g w] r = some (⟨.lst ((nodes g s w).map g.gs), .new⟩, r) := by
  obtain ⟨sl', h1, h2⟩ := trace_loop (F := f_stepped) (r := r) hs ok hv hl fun i j r hi hj => ok.step i j r hi hj
  refine mBody_rt (sl := [some (.dat (g.gs s)), some (.dat (wdD g w)), none, none]) rfl ?_
  unfold m_trace
  have h0 : mAsg 2 (mLst (mCons (mVar 0) mNil)) ⟨[some (.dat (g.gs s)), some (.dat (wdD g w)), none, none], r⟩ = some (.nx [some (.dat (g.gs s)), some (.dat (wdD g w)), some (.own (.lst [g.gs s])), none], r) := by simp [mSeq, mAsg, mPar, mUnp, mCons, mNil, mStar, mFn, mVar, mCst, mTup, mLst, mBin, mIfS, mIf, mTb, mTr, mTNot, mTOr, mTAnd, mAnd, mOr, mNot, mIs, mCall, f1, mNext, mRet, mRetVar, mDrop, evI, evB, datE, kept, setE, noBor_nil, noBor_cons, noBor_new, noBor_map, mapd_map, noBorK, fAdd, fSub, fMul, fMulI, fDiv, fMod, fInt, fCatL, fCatT, fLt, fLtI, fLtT, fLe, fGt, fGe, fIsN, isNon, fIsNB, ownAt, mApp, mPutT, mPutI, mSetI, frz, mFrz, truD, intsD, isTupD, isIntD, isBoolD, isStrD, isListD, isTLD, itemsD, gLen, gInt, gTuple, mNeg, mChain, mBrk, lim, mSl, mOSome, mONone, bindT, mNever, mTb]
  have hit : mIt (mVar 1) ⟨[some (.dat (g.gs s)), some (.dat (wdD g w)), some (.own (.lst [g.gs s])), none], r⟩ = some (w.map g.st, true, r) := rfl
  rw [mSeq_nx h0, mSeq_nx ((mForS_eq hit).trans h1)]
  exact ret_own h2
/-! ### done -/
theorem done_loop {F : MF} {w : List Nat} {r : Rw} (hs : s < g.B) (ok : GpOk g) (hv : valid g w) (hF : ∀ i j r, i < g.B → j < g.S → F [g.gs i, g.st j] r = some (⟨g.gs (g.nx i j), .dat⟩, r)) :
    ∃ sl', mFor (.one 2) (mAsg 0 (mFn 2 F (mCons (mVar 0) (mCons (mVar 2) mNil)))) (w.map g.st) [some (.dat (g.gs s)), some (.dat (wdD g w)), none] r = some (.nx sl', r) ∧ sl'[0]? = some (some (.dat (g.gs (wk g s w)))) := by
  obtain ⟨sl', h1, a3, rfl⟩ := mFor_rel (t := .one 2) (body := mAsg 0 (mFn 2 F (mCons (mVar 0) (mCons (mVar 2) mNil)))) (r := r) g.st
    (fun P sl => ∃ a3, sl = [some (.dat (g.gs (wk g s P))), some (.dat (wdD g w)), a3]) w w [] [some (.dat (g.gs s)), some (.dat (wdD g w)), none] rfl
    (fun P j rest sl hp ⟨a3, e⟩ => by
      subst e
      have hj : j < g.S := hv j (by rw [← hp]; simp)
      have hvP : valid g P := fun k hk => hv k (by rw [← hp]; simp [hk])
      have hi := wk_lt ok hs hvP
      refine ⟨_, _, rfl, ?_, some (.dat (g.st j)), rfl⟩
      rw [wk_snoc]
      simp [mSeq, mAsg, mPar, mUnp, mCons, mNil, mStar, mFn, mVar, mCst, mTup, mLst, mBin, mIfS, mIf, mTb, mTr, mTNot, mTOr, mTAnd, mAnd, mOr, mNot, mIs, mCall, f1, mNext, mRet, mRetVar, mDrop, evI, evB, datE, kept, setE, noBor_nil, noBor_cons, noBor_new, noBor_map, mapd_map, noBorK, fAdd, fSub, fMul, fMulI, fDiv, fMod, fInt, fCatL, fCatT, fLt, fLtI, fLtT, fLe, fGt, fGe, fIsN, isNon, fIsNB, ownAt, mApp, mPutT, mPutI, mSetI, frz, mFrz, truD, intsD, isTupD, isIntD, isBoolD, isStrD, isListD, isTLD, itemsD, gLen, gInt, gTuple, mNeg, mChain, mBrk, lim, mSl, mOSome, mONone, bindT, mNever, mTb, hF _ _ r hi hj])
    ⟨none, rfl⟩
  exact ⟨_, h1, rfl⟩
theorem done_ok (ok : GpOk g) (hs : s < g.B) {w : List Nat} (hv : valid g w) (r : Rw) : f__law_done [g.gs s, wdD g w] r = some (⟨g.gs (wk g s w), .dat⟩, r) := by
  obtain ⟨sl', h1, h2⟩ := done_loop (F := f__law_step) (r := r) hs ok hv fun i j r hi hj => ok.lstep i j r hi hj
  refine mBody_rt (sl := [some (.dat (g.gs s)), some (.dat (wdD g w)), none]) rfl ?_
  unfold m__law_done
  have hit : mIt (mVar 1) ⟨[some (.dat (g.gs s)), some (.dat (wdD g w)), none], r⟩ = some (w.map g.st, true, r) := rfl
  rw [mSeq_nx ((mForS_eq hit).trans h1)]
  exact ret_dat h2
/-! ### are_steps -/
theorem mapM_bls : ∀ l : List Bool, (l.map D.bl).mapM asBl = some l
  | [] => rfl
  | i :: l => by simp [List.mapM_cons, asBl, mapM_bls l]
theorem are_sim {F : MF} {n : D} {ds : List D} {h : D → Bool} {m : Int} {r : Rw} (hF : ∀ d ∈ ds, F [n, d] r = some (⟨.bl (h d), .dat⟩, r)) :
    (mRet (mAnd (mIs isTupD (mVar 1)) (mAnd (mBin fLe (mCall (f1 gLen) (mCons (mVar 1) mNil)) (mVar 2)) (mAllG (.one 3) [3] (mIt (mVar 1)) (mFn 2 F (mCons (mVar 0) (mCons (mVar 3) mNil))))))) ⟨[some (.dat n), some (.dat (.tup ds)), some (.dat (.int m)), none], r⟩
      = some (.rt ⟨.bl (decide ((ds.length : Int) ≤ m) && ds.all h), .dat⟩, r) := by
  have h2 : gVals (.one 3) (mFn 2 F (mCons (mVar 0) (mCons (mVar 3) mNil))) (wipeS [some (.dat n), some (.dat (.tup ds)), some (.dat (.int m)), none] [3]) r (ds.map id) = some (ds.map (D.bl ∘ h)) := by
    refine gVals_map id (D.bl ∘ h) fun d hd => ⟨_, .dat, rfl, ?_⟩
    simp [mFn, mVar, mCons, mNil, noBor_nil, noBor_cons, noBorK, wipeS, hF d hd]
  have h3 : mAllG (.one 3) [3] (mIt (mVar 1)) (mFn 2 F (mCons (mVar 0) (mCons (mVar 3) mNil))) ⟨[some (.dat n), some (.dat (.tup ds)), some (.dat (.int m)), none], r⟩ = some (⟨.bl (ds.all h), .dat⟩, r) := by
    unfold mAllG mGen
    have : mIt (mVar 1) ⟨[some (.dat n), some (.dat (.tup ds)), some (.dat (.int m)), none], r⟩ = some (ds.map id, true, r) := by rw [List.map_id]; rfl
    rw [this, Option.bind_some]
    simp only
    rw [h2, Option.bind_some, ← List.map_map, mapM_bls]
    simp [evB, Function.comp]
  by_cases hm : (ds.length : Int) ≤ m
  · simp [mRet, mAnd, mIs, isTupD, mVar, mBin, mCall, mCons, mNil, f1, gLen, fLe, fInt, evI, evB, noBorK, hm, h3]
  · simp [mRet, mAnd, mIs, isTupD, mVar, mBin, mCall, mCons, mNil, f1, gLen, fLe, fInt, evI, evB, noBorK, hm, h3]
theorem are_ok (ok : GpOk g) {w : List Nat} (hv : valid g w) (m : Int) (r : Rw) : f_are_steps [.int g.n, wdD g w, .int m] r = some (⟨.bl (decide ((w.length : Int) ≤ m)), .dat⟩, r) := by
  have h := are_sim (F := f_is_step) (n := .int g.n) (ds := w.map g.st) (h := fun _ => true) (m := m) (r := r) fun d hd => by
    obtain ⟨j, hj, rfl⟩ := List.mem_map.mp hd
    exact ok.isstep j r (hv j hj)
  rw [List.length_map] at h
  have h2 : ((w.map g.st).all fun _ => true) = true := by simp
  rw [h2, Bool.and_true] at h
  exact mBody_rt (sl := [some (.dat (.int g.n)), some (.dat (wdD g w)), some (.dat (.int m)), none]) rfl h
theorem are_bad (ok : GpOk g) (m : Int) (r : Rw) : f_are_steps [.int g.n, .tup [.tup [.int g.n]], .int m] r = some (⟨.bl false, .dat⟩, r) := by
  have h := are_sim (F := f_is_step) (n := .int g.n) (ds := [.tup [.int g.n]]) (h := fun _ => false) (m := m) (r := r) fun d hd => by
    simp at hd
    subst hd
    exact ok.badstep r
  have h2 : (([D.tup [.int g.n]] : List D).all fun _ => false) = false := rfl
  rw [h2, Bool.and_false] at h
  exact mBody_rt (sl := [some (.dat (.int g.n)), some (.dat (.tup [.tup [.int g.n]])), some (.dat (.int m)), none]) rfl h
theorem are_nsim {F : MF} {n m d : D} {r : Rw} (hd : isTupD d = some false) :
    (mRet (mAnd (mIs isTupD (mVar 1)) (mAnd (mBin fLe (mCall (f1 gLen) (mCons (mVar 1) mNil)) (mVar 2)) (mAllG (.one 3) [3] (mIt (mVar 1)) (mFn 2 F (mCons (mVar 0) (mCons (mVar 3) mNil))))))) ⟨[some (.dat n), some (.dat d), some (.dat m), none], r⟩ = some (.rt ⟨.bl false, .dat⟩, r) := by
  simp [mRet, mAnd, mIs, hd, mVar, evB, noBorK]
theorem are_lst {n m d : D} (r : Rw) (hd : isTupD d = some false) : f_are_steps [n, d, m] r = some (⟨.bl false, .dat⟩, r) :=
  mBody_rt (sl := [some (.dat n), some (.dat d), some (.dat m), none]) rfl (are_nsim hd)
theorem isin_sim {v a b : Int} {r : Rw} : m_is_in ⟨[some (.dat (.int v)), some (.dat (.int a)), some (.dat (.int b))], r⟩ = some (.rt ⟨.bl (decide (a ≤ v) && decide (v ≤ b)), .dat⟩, r) := by
  by_cases h : a ≤ v
  · simp [m_is_in, mRet, mAnd, mNot, mIs, isIntD, isBoolD, mVar, mChain, fLe, fInt, evB, noBorK, h]
  · simp [m_is_in, mRet, mAnd, mNot, mIs, isIntD, isBoolD, mVar, mChain, fLe, fInt, evB, noBorK, h]
theorem isin_ok (v a b : Int) (r : Rw) : f_is_in [.int v, .int a, .int b] r = some (⟨.bl (decide (a ≤ v) && decide (v ≤ b)), .dat⟩, r) :=
  mBody_rt (sl := [some (.dat (.int v)), some (.dat (.int a)), some (.dat (.int b))]) rfl isin_sim
theorem alike_ok (a b : Bool) (r : Rw) : f__law_alike [.bl a, .bl b] r = some (⟨.bl (decide (a = b)), .dat⟩, r) := by
  cases a <;> cases b <;> rfl
end
end GD
/-! Kg -/
set_option maxHeartbeats 4000000
/-! Kg: shows_best_net. -/
namespace GD
open PySem L2
theorem fEq_int (a b : Int) : fEq (.int a) (.int b) = some ⟨.bl (decide (a = b)), .dat⟩ := by
  have h : fEq (.int a) (.int b) = some ⟨.bl (a == b), .dat⟩ := rfl
  rw [h]
  congr 3
theorem fNe_int (a b : Int) : fNe (.int a) (.int b) = some ⟨.bl (!decide (a = b)), .dat⟩ := by
  have h : fNe (.int a) (.int b) = some ⟨.bl (!(a == b)), .dat⟩ := rfl
  rw [h]
  congr 4
section
variable {g : Gp} {u : Nu} {s : Nat}
def slB (a lk ps v : D) (b n : Int) : Sl := [some (.dat a), some (.dat lk), some (.dat ps), some (.dat v), some (.dat (.int b)), some (.dat (.int n))]
theorem sbn_pre {F1 F2 F3 : MF} {rest : MSt} {a lk ps v d : D} {b n : Int} {x : D} {r : Rw} (h1 : F1 [a, lk, ps] r = some (⟨.non, .dat⟩, r)) (h2 : F2 [a, lk, ps] r = some (⟨.tup [.int b, x], .dat⟩, r)) (h3 : F3 [a] r = some (⟨.int n, .dat⟩, r)) :
    (mSeq (mDrop (mFn 3 F1 (mCons (mVar 0) (mCons (mVar 1) (mCons (mVar 2) mNil)))))
 (mSeq (mPar [4, 5] (mCons (mBin fIx (mFn 3 F2 (mCons (mVar 0) (mCons (mVar 1) (mCons (mVar 2) mNil)))) (mCst (.int 0))) (mCons (mFn 1 F3 (mCons (mVar 0) mNil)) mNil))) rest)) ⟨[some (.dat a), some (.dat lk), some (.dat ps), some (.dat v), none, none], r⟩ = rest ⟨slB a lk ps v b n, r⟩ := by
  have hx : fIx (.tup [.int b, x]) (.int 0) = some ⟨.int b, .dat⟩ := rfl
  simp [mSeq, mAsg, mPar, mUnp, mCons, mNil, mStar, mFn, mVar, mCst, mTup, mLst, mBin, mIfS, mIf, mTb, mTr, mTNot, mTOr, mTAnd, mAnd, mOr, mNot, mIs, mCall, f1, mNext, mRet, mRetVar, mDrop, evI, evB, datE, kept, setE, noBor_nil, noBor_cons, noBor_new, noBor_map, mapd_map, noBorK, fAdd, fSub, fMul, fMulI, fDiv, fMod, fInt, fCatL, fCatT, fLt, fLtI, fLtT, fLe, fGt, fGe, fIsN, isNon, fIsNB, ownAt, mApp, mPutT, mPutI, mSetI, frz, mFrz, truD, intsD, isTupD, isIntD, isBoolD, isStrD, isListD, isTLD, itemsD, gLen, gInt, gTuple, mNeg, mChain, mBrk, lim, mSl, mOSome, mONone, bindT, mNever, mTb, h1, h2, h3, hx, slB]
abbrev sbnT (F : MF) : MT := (mTOr (mTNot (mTb (mIs isTupD (mVar 3)))) (mTOr (mTb (mBin fNe (mCall (f1 gLen) (mCons (mVar 3) mNil)) (mCst (.int 2)))) (mTNot (mTb (mFn 3 F (mCons (mBin fIx (mVar 3) (mCst (.int 0))) (mCons (mVar 4) (mCons (mVar 4) mNil))))))))
theorem sbn_t1 {F : MF} {a lk ps x : D} {v0 b n : Int} {r : Rw} {c : Bool} (h : F [.int v0, .int b, .int b] r = some (⟨.bl c, .dat⟩, r)) : sbnT F ⟨slB a lk ps (.tup [.int v0, x]) b n, r⟩ = some (!c, r) := by
  have hx : fIx (.tup [.int v0, x]) (.int 0) = some ⟨.int v0, .dat⟩ := rfl
  have h2 : fNe (.int 2) (.int 2) = some ⟨.bl false, .dat⟩ := rfl
  simp [mSeq, mAsg, mPar, mUnp, mCons, mNil, mStar, mFn, mVar, mCst, mTup, mLst, mBin, mIfS, mIf, mTb, mTr, mTNot, mTOr, mTAnd, mAnd, mOr, mNot, mIs, mCall, f1, mNext, mRet, mRetVar, mDrop, evI, evB, datE, kept, setE, noBor_nil, noBor_cons, noBor_new, noBor_map, mapd_map, noBorK, fAdd, fSub, fMul, fMulI, fDiv, fMod, fInt, fCatL, fCatT, fLt, fLtI, fLtT, fLe, fGt, fGe, fIsN, isNon, fIsNB, ownAt, mApp, mPutT, mPutI, mSetI, frz, mFrz, truD, intsD, isTupD, isIntD, isBoolD, isStrD, isListD, isTLD, itemsD, gLen, gInt, gTuple, mNeg, mChain, mBrk, lim, mSl, mOSome, mONone, bindT, mNever, mTb, h, hx, h2, slB]
theorem sbn_t0 {F : MF} {a lk ps v : D} {b n : Int} {r : Rw} (h : isTupD v = some false) : sbnT F ⟨slB a lk ps v b n, r⟩ = some (true, r) := by
  simp [mTOr, mTNot, mTb, mIs, mVar, slB, h, evB]
abbrev sbnF (F5 F6 F7 F8 : MF) : MSt := (mSeq (mIfS (mTNot (mTb (mFn 3 F5 (mCons (mVar 5) (mCons (mBin fIx (mVar 3) (mCst (.int 1))) (mCons (mCst (.int 300)) mNil))))))
 (mRet (mCst (.bl false)))
 mNext)
 (mRet (mBin fEq (mBin fSub (mFn 2 F6 (mCons (mBin fIx (mFn 2 F7 (mCons (mVar 0) (mCons (mBin fIx (mVar 3) (mCst (.int 1))) mNil))) (mNeg (mCst (.int 1)))) (mCons (mVar 1) mNil))) (mFn 3 F8 (mCons (mVar 5) (mCons (mVar 2) (mCons (mBin fIx (mVar 3) (mCst (.int 1))) mNil))))) (mVar 4))))
theorem sbn_f0 {F5 F6 F7 F8 : MF} {a lk ps x : D} {v0 b n : Int} {r : Rw} (h : F5 [.int n, x, .int 300] r = some (⟨.bl false, .dat⟩, r)) : sbnF F5 F6 F7 F8 ⟨slB a lk ps (.tup [.int v0, x]) b n, r⟩ = some (.rt ⟨.bl false, .dat⟩, r) := by
  have hx : fIx (.tup [.int v0, x]) (.int 1) = some ⟨x, .dat⟩ := rfl
  simp [mSeq, mAsg, mPar, mUnp, mCons, mNil, mStar, mFn, mVar, mCst, mTup, mLst, mBin, mIfS, mIf, mTb, mTr, mTNot, mTOr, mTAnd, mAnd, mOr, mNot, mIs, mCall, f1, mNext, mRet, mRetVar, mDrop, evI, evB, datE, kept, setE, noBor_nil, noBor_cons, noBor_new, noBor_map, mapd_map, noBorK, fAdd, fSub, fMul, fMulI, fDiv, fMod, fInt, fCatL, fCatT, fLt, fLtI, fLtT, fLe, fGt, fGe, fIsN, isNon, fIsNB, ownAt, mApp, mPutT, mPutI, mSetI, frz, mFrz, truD, intsD, isTupD, isIntD, isBoolD, isStrD, isListD, isTLD, itemsD, gLen, gInt, gTuple, mNeg, mChain, mBrk, lim, mSl, mOSome, mONone, bindT, mNever, mTb, h, hx, slB]
theorem sbn_f1 {F5 F6 F7 F8 : MF} {a lk ps x : D} {v0 b n : Int} {r : Rw} {L : List D} {e : D} {wv pv : Int} (h : F5 [.int n, x, .int 300] r = some (⟨.bl true, .dat⟩, r)) (h7 : F7 [a, x] r = some (⟨.lst L, .new⟩, r)) (hL : fIx (.lst L) (.int (-1)) = some ⟨e, .dat⟩) (h6 : F6 [e, lk] r = some (⟨.int wv, .dat⟩, r)) (h8 : F8 [.int n, ps, x] r = some (⟨.int pv, .dat⟩, r)) :
    sbnF F5 F6 F7 F8 ⟨slB a lk ps (.tup [.int v0, x]) b n, r⟩ = some (.rt ⟨.bl (decide (wv - pv = b)), .dat⟩, r) := by
  have hx : fIx (.tup [.int v0, x]) (.int 1) = some ⟨x, .dat⟩ := rfl
  simp [mSeq, mAsg, mPar, mUnp, mCons, mNil, mStar, mFn, mVar, mCst, mTup, mLst, mBin, mIfS, mIf, mTb, mTr, mTNot, mTOr, mTAnd, mAnd, mOr, mNot, mIs, mCall, f1, mNext, mRet, mRetVar, mDrop, evI, evB, datE, kept, setE, noBor_nil, noBor_cons, noBor_new, noBor_map, mapd_map, noBorK, fAdd, fSub, fMul, fMulI, fDiv, fMod, fInt, fCatL, fCatT, fLt, fLtI, fLtT, fLe, fGt, fGe, fIsN, isNon, fIsNB, ownAt, mApp, mPutT, mPutI, mSetI, frz, mFrz, truD, intsD, isTupD, isIntD, isBoolD, isStrD, isListD, isTLD, itemsD, gLen, gInt, gTuple, mNeg, mChain, mBrk, lim, mSl, mOSome, mONone, bindT, mNever, mTb, h, h6, h7, h8, hL, hx, slB, fEq_int]
theorem mSeq_if1 {t : MT} {a b c : MSt} {s : MS} {r : Rw} {e : EV} {r2 : Rw} (h : t s = some (true, r)) (h2 : a ⟨s.sl, r⟩ = some (.rt e, r2)) : mSeq (mIfS t a b) c s = some (.rt e, r2) := by
  simp [mSeq, mIfS, h, h2]
theorem mSeq_if0 {t : MT} {a c : MSt} {s : MS} {r : Rw} (h : t s = some (false, r)) : mSeq (mIfS t a mNext) c s = c ⟨s.sl, r⟩ := by
  simp [mSeq, mIfS, h, mNext]
theorem ret_bl {b : Bool} {s : MS} : mRet (mCst (.bl b)) s = some (.rt ⟨.bl b, .dat⟩, s.rw) := rfl
theorem sbn_eq : m_shows_best_net = (mSeq (mDrop (mFn 3 f_need_net (mCons (mVar 0) (mCons (mVar 1) (mCons (mVar 2) mNil)))))
 (mSeq (mPar [4, 5] (mCons (mBin fIx (mFn 3 f_net_of (mCons (mVar 0) (mCons (mVar 1) (mCons (mVar 2) mNil)))) (mCst (.int 0))) (mCons (mFn 1 f_size_of (mCons (mVar 0) mNil)) mNil)))
 (mSeq (mIfS (sbnT f_is_in) (mRet (mCst (.bl false))) mNext) (sbnF f_are_steps f_worth_of f_trace f_price_of)))) := rfl
/-- what shows_best_net answers at a value -/
inductive NetV (g : Gp) (u : Nu) (s : Nat) (b : Int) : D → Bool → Prop where
  | word (v0 : Int) (w : List Nat) (hv : valid g w) : NetV g u s b (.tup [.int v0, wdD g w]) (decide (v0 = b) && (decide (w.length ≤ 300) && decide (val g u s w = b)))
  | no (v : D) (h : isTupD v = some false) : NetV g u s b v false
  | noword (v0 : Int) (x : D) (h : isTupD x = some false) : NetV g u s b (.tup [.int v0, x]) false
  | far (v0 : Int) : NetV g u s b (.tup [.int v0, .tup [.tup [.int g.n]]]) false
theorem shows_net_ok (ok : GpOk g) (nu : NuOk g u) (hs : s < g.B) {b : Int} {w0 : List Nat} {r : Rw} (hn : f_net_of [g.gs s, u.lk, u.ps] r = some (⟨bestD g b w0, .dat⟩, r)) {v : D} {c : Bool} (hv : NetV g u s b v c) : f_shows_best_net [g.gs s, u.lk, u.ps, v] r = some (⟨.bl c, .dat⟩, r) := by
  refine mBody_rt (sl := [some (.dat (g.gs s)), some (.dat u.lk), some (.dat u.ps), some (.dat v), none, none]) rfl ?_
  rw [sbn_eq]
  refine (sbn_pre (d := .non) (x := .tup (w0.map g.st)) (need_net_ok ok nu hs r) hn (ok.size s r hs)).trans ?_
  have two : ∀ (v0 : Int) (x : D) (c : Bool), (f_are_steps [.int g.n, x, .int 300] r = some (⟨.bl false, .dat⟩, r)) → (mSeq (mIfS (sbnT f_is_in) (mRet (mCst (.bl false))) mNext) (sbnF f_are_steps f_worth_of f_trace f_price_of)) ⟨slB (g.gs s) u.lk u.ps (.tup [.int v0, x]) b g.n, r⟩ = some (.rt ⟨.bl false, .dat⟩, r) := by
    intro v0 x c h
    have t := sbn_t1 (a := g.gs s) (lk := u.lk) (ps := u.ps) (x := x) (n := g.n) (isin_ok v0 b b r)
    cases hc : (decide (b ≤ v0) && decide (v0 ≤ b)) with
    | false =>
      rw [hc] at t
      exact mSeq_if1 t ret_bl
    | true =>
      rw [hc] at t
      rw [mSeq_if0 t]
      exact sbn_f0 h
  cases hv with
  | no v h => exact mSeq_if1 (sbn_t0 h) ret_bl
  | noword v0 x h => exact two v0 x false (are_lst r h)
  | far v0 => exact two v0 _ false (are_bad ok 300 r)
  | word v0 w hv =>
    have t := sbn_t1 (a := g.gs s) (lk := u.lk) (ps := u.ps) (x := wdD g w) (n := g.n) (isin_ok v0 b b r)
    by_cases hb : v0 = b
    · subst hb
      have hc : (decide (v0 ≤ v0) && decide (v0 ≤ v0)) = true := by simp
      rw [hc] at t
      rw [mSeq_if0 t]
      by_cases hl : w.length ≤ 300
      · have ha := are_ok ok hv 300 r
        have : decide ((w.length : Int) ≤ 300) = true := by simp; omega
        rw [this] at ha
        obtain ⟨I, hI⟩ := nodes_last (g := g) (s := s) w
        have hL : fIx (.lst ((nodes g s w).map g.gs)) (.int (-1)) = some ⟨g.gs (wk g s w), .dat⟩ := by
          rw [hI, List.map_append]; exact fIx_last _ _
        refine (sbn_f1 ha (trace_ok ok hs hv hl r) hL (nu.worth _ r (wk_lt ok hs hv)) (price_of_ok ok nu hv hl r)).trans ?_
        have e : (decide (v0 = v0) && (decide (w.length ≤ 300) && decide (val g u s w = v0))) = decide (val g u s w = v0) := by simp [hl]
        rw [e]; rfl
      · have ha := are_ok ok hv 300 r
        have : decide ((w.length : Int) ≤ 300) = false := by simp; omega
        rw [this] at ha
        refine (sbn_f0 ha).trans ?_
        simp [hl]
    · have hc : (decide (b ≤ v0) && decide (v0 ≤ b)) = false := by
        by_cases h1 : b ≤ v0
        · have : ¬ v0 ≤ b := fun z => hb (by omega)
          simp [this]
        · simp [h1]
      rw [hc] at t
      refine (mSeq_if1 t ret_bl).trans ?_
      simp [hb]
end
end GD
/-! Kh -/
set_option maxHeartbeats 4000000
/-! Kh: the law's own least prices. -/
namespace GD
open PySem L2
section
variable {g : Gp} {u : Nu} {s : Nat}
def tabL (g : Gp) (u : Nu) : List (D × D) := (List.range g.S).map fun j => (g.st j, D.int (u.pr j))
theorem look_tab (ok : GpOk g) {j : Nat} (hj : j < g.S) : ∀ {L : List Nat}, (∀ k ∈ L, k < g.S) → j ∈ L → lookT (L.map fun j => (g.st j, D.int (u.pr j))) (g.st j) = some (.int (u.pr j))
  | [], _, h => by cases h
  | k :: L, hk, hm => by
    have e := ok.skeq k j (hk k List.mem_cons_self) hj
    by_cases hkj : k = j
    · subst hkj
      simp [lookT, e]
    · have hm : j ∈ L := (List.mem_cons.mp hm).resolve_left fun z => hkj z.symm
      have := look_tab ok hj (L := L) (fun m hm => hk m (List.mem_cons_of_mem _ hm)) hm
      simp [lookT, e, hkj] at this ⊢
      exact this
theorem fIx_tabL (ok : GpOk g) {j : Nat} (hj : j < g.S) : fIx (.dT (tabL g u)) (g.st j) = some ⟨.int (u.pr j), .dat⟩ := by
  rw [fIx_dT, if_pos (ok.skey j hj)]
  unfold tabL
  rw [look_tab ok hj (fun k hk => List.mem_range.mp hk) (List.mem_range.mpr hj)]; rfl
structure Ld (g : Gp) (u : Nu) (s : Nat) (f : List (Nat × Int)) : Prop where
  keys : ∀ i ∈ f.map (·.1), i < g.B
  nd : (f.map (·.1)).Nodup
  start : ∃ d, lkA f s = some d ∧ d ≤ 0
  ok : ∀ i d, lkA f i = some d → (∃ w, valid g w ∧ wk g s w = i ∧ cost u w = d) ∧ d ≤ 5 * f.length
def ClL (g : Gp) (u : Nu) (f : List (Nat × Int)) (i j : Nat) : Prop := ∀ d, lkA f i = some d → ∃ d', lkA f (g.nx i j) = some d' ∧ d' ≤ d + u.pr j
def poL : Option Int → Nat
  | none => 30
  | some d => d.toNat
def muL (g : Gp) (f : List (Nat × Int)) : Nat := ((List.range g.B).map fun t => poL (lkA f t)).sum
theorem Ld.lt {f : List (Nat × Int)} (h : Ld g u s f) {i : Nat} {d : Int} (e : lkA f i = some d) : i < g.B := h.keys i (List.mem_map.mpr ⟨_, lkA_mem e, rfl⟩)
theorem Ld.len (ok : GpOk g) {f : List (Nat × Int)} (h : Ld g u s f) : f.length ≤ 5 := by
  have h1 := nodup_len h.nd h.keys
  rw [List.length_map] at h1
  have := ok.b5
  omega
theorem Ld.nn (ok : GpOk g) (nu : NuOk g u) {f : List (Nat × Int)} (h : Ld g u s f) {i : Nat} {d : Int} (e : lkA f i = some d) : 0 ≤ d := by
  obtain ⟨⟨w, h1, _, h3⟩, _⟩ := h.ok i d e
  have := (cost_nn ok nu h1).1
  omega
theorem putA_len {α : Type} (f : List (Nat × α)) (i : Nat) (a : α) : f.length ≤ (putA f i a).length ∧ (lkA f i = none → (putA f i a).length = f.length + 1) := by
  unfold putA
  split
  · rename_i h
    rw [List.length_map]
    refine ⟨Nat.le_refl _, fun z => ?_⟩
    rw [lkA_any, z] at h; cases h
  · rw [List.length_append]
    exact ⟨by simp, fun _ => rfl⟩
theorem Ld.relax (ok : GpOk g) (nu : NuOk g u) (hs : s < g.B) {f : List (Nat × Int)} (h : Ld g u s f) {i j : Nat} {d : Int} (e : lkA f i = some d) (hj : j < g.S) (hb : ∀ d', lkA f (g.nx i j) = some d' → d + u.pr j < d') :
    Ld g u s (putA f (g.nx i j) (d + u.pr j)) ∧ g.nx i j ≠ i ∧ muL g (putA f (g.nx i j) (d + u.pr j)) < muL g f := by
  obtain ⟨⟨w, h1, h2, h3⟩, h4⟩ := h.ok i d e
  have hi := h.lt e
  have ht := ok.nxlt i j hi hj
  have hp := nu.pr0 j hj
  have hne : g.nx i j ≠ i := by
    intro z
    rw [z] at hb
    have := hb d e
    omega
  have sd : Ld g u s (putA f (g.nx i j) (d + u.pr j)) := by
    have hl := putA_len f (g.nx i j) (d + u.pr j)
    refine ⟨fun k hk => ?_, ?_, ?_, fun k dk hk => ?_⟩
    · rw [putA_keys] at hk
      split at hk
      · exact h.keys k hk
      · rcases List.mem_append.mp hk with hk | hk
        · exact h.keys k hk
        · simp at hk; subst hk; exact ht
    · rw [putA_keys]
      split
      · exact h.nd
      · rename_i hn
        rw [List.nodup_append]
        refine ⟨h.nd, by simp, fun a ha b hb z => ?_⟩
        simp at hb
        subst hb z
        exact hn ha
    · obtain ⟨l0, q1, q2⟩ := h.start
      rw [lkA_put]
      by_cases hst : s = g.nx i j
      · rw [if_pos hst]
        rw [hst] at q1
        have := hb l0 q1
        exact ⟨_, rfl, by omega⟩
      · rw [if_neg hst]; exact ⟨l0, q1, q2⟩
    · rw [lkA_put] at hk
      by_cases hkt : k = g.nx i j
      · rw [if_pos hkt] at hk
        cases hk
        refine ⟨⟨w ++ [j], fun m hm => ?_, by rw [wk_snoc, h2, hkt], by rw [cost_snoc, h3]⟩, ?_⟩
        · rcases List.mem_append.mp hm with hm | hm
          · exact h1 m hm
          · simp at hm; subst hm; exact hj
        · cases hl2 : lkA f (g.nx i j) with
          | none => have := hl.2 hl2; omega
          | some d' =>
            have := hb d' hl2
            have := (h.ok _ d' hl2).2
            omega
      · rw [if_neg hkt] at hk
        obtain ⟨a1, a2⟩ := h.ok k dk hk
        exact ⟨a1, by omega⟩
  refine ⟨sd, hne, ?_⟩
  have hpo : poL (lkA (putA f (g.nx i j) (d + u.pr j)) (g.nx i j)) < poL (lkA f (g.nx i j)) := by
    have q := sd.ok (g.nx i j) (d + u.pr j) (by rw [lkA_put, if_pos rfl])
    have l5 := sd.len ok
    rw [lkA_put, if_pos rfl]
    have d0 := h.nn ok nu e
    cases hl : lkA f (g.nx i j) with
    | none =>
      show (d + u.pr j).toNat < 30
      omega
    | some d' =>
      have := hb d' hl
      show (d + u.pr j).toNat < d'.toNat
      omega
  unfold muL
  refine sum_lt (t := g.nx i j) (List.mem_range.mpr ht) (fun x _ => ?_) hpo
  by_cases hx : x = g.nx i j
  · subst hx; omega
  · rw [lkA_put, if_neg hx]
    exact Nat.le_refl _
/-- closed places stay closed, but at the bettered one -/
theorem ClL.put {f : List (Nat × Int)} {i j : Nat} {d : Int} (hb : ∀ d', lkA f (g.nx i j) = some d' → d + u.pr j < d') {k m : Nat} (hk : k ≠ g.nx i j) (h : ClL g u f k m) : ClL g u (putA f (g.nx i j) (d + u.pr j)) k m := by
  intro dk e
  rw [lkA_put, if_neg hk] at e
  obtain ⟨d', h1, h2⟩ := h dk e
  rw [lkA_put]
  by_cases ht : g.nx k m = g.nx i j
  · rw [if_pos ht]
    rw [ht] at h1
    have := hb d' h1
    exact ⟨_, rfl, by omega⟩
  · rw [if_neg ht]; exact ⟨d', h1, h2⟩
abbrev encI (g : Gp) (f : List (Nat × Int)) : D := .dT (encA g.gs D.int f)
abbrev lfStep (F : MF) : MSt := (mSeq (mAsg 16 (mFn 2 F (mCons (mVar 14) (mCons (mVar 15) mNil))))
 (mIfS (mTOr (mTb (mBin (fIn true) (mVar 16) (mVar 11))) (mTb (mBin fLt (mBin fAdd (mBin fIx (mVar 11) (mVar 14)) (mBin fIx (mVar 10) (mVar 15))) (mBin fIx (mVar 11) (mVar 16)))))
 (mSeq (mPutT 11 (mVar 16) (mBin fAdd (mBin fIx (mVar 11) (mVar 14)) (mBin fIx (mVar 10) (mVar 15))))
 (mApp 13 (mVar 16)))
 mNext))
/-- the law's slots: p the first seven, q slots 8 and 9, t those behind 13 -/
structure Pre where
  a0 : Option SV
  a1 : Option SV
  a2 : Option SV
  a3 : Option SV
  a4 : Option SV
  a5 : Option SV
  a6 : Option SV
  a8 : Option SV
  a9 : Option SV
def slW (p : Pre) (a7 : Option SV) (tb : D) (ls : D) (a12 a13 : Option SV) (t : Sl) : Sl :=
  p.a0 :: p.a1 :: p.a2 :: p.a3 :: p.a4 :: p.a5 :: p.a6 :: a7 :: p.a8 :: p.a9 :: some (.own tb) :: some (.own ls) :: a12 :: a13 :: t
theorem lf_step {F : MF} (ok : GpOk g) (nu : NuOk g u) (hs : s < g.B) (hF : ∀ i j r, i < g.B → j < g.S → F [g.gs i, g.st j] r = some (⟨g.gs (g.nx i j), .dat⟩, r)) {f : List (Nat × Int)} {more : List Nat} {i j : Nat} {d : Int} {p : Pre} {a7 a12 a16 : Option SV} {t : Sl} {r : Rw} (sd : Ld g u s f) (e : lkA f i = some d) (hj : j < g.S) (hm : more.length < 1000000) :
    ∃ f' more' c16, lfStep F ⟨slW p a7 (.dT (tabL g u)) (encI g f) a12 (some (.own (.lst (more.map g.gs)))) (some (.dat (g.gs i)) :: some (.dat (g.st j)) :: a16 :: t), r⟩ = some (.nx (slW p a7 (.dT (tabL g u)) (encI g f') a12 (some (.own (.lst (more'.map g.gs)))) (some (.dat (g.gs i)) :: some (.dat (g.st j)) :: c16 :: t)), r) ∧
      ((f' = f ∧ more' = more ∧ ∃ d', lkA f (g.nx i j) = some d' ∧ d' ≤ d + u.pr j) ∨ (f' = putA f (g.nx i j) (d + u.pr j) ∧ more' = more ++ [g.nx i j] ∧ ∀ d', lkA f (g.nx i j) = some d' → d + u.pr j < d')) := by
  have hi := sd.lt e
  have ht := ok.nxlt i j hi hj
  have h1 := hF i j r hi hj
  have h2 := fIx_tabL (u := u) ok hj
  have hlook : lookT (encA g.gs D.int f) (g.gs (g.nx i j)) = (lkA f (g.nx i j)).map D.int := look_enc ok.gkeq sd.keys ht
  have hlooki : fIx (encI g f) (g.gs i) = some ⟨.int d, .dat⟩ := by rw [fIx_dT, if_pos (ok.gkey i hi), look_enc ok.gkeq sd.keys hi, e]; rfl
  have hkey := ok.gkey _ ht
  have hput := put_enc (v := D.int) ok.gkeq sd.keys ht (d + u.pr j)
  have hlen2 : (encA g.gs D.int f).length < 1000000 := by unfold encA; rw [List.length_map]; have := sd.len ok; omega
  have st1 : mAsg 16 (mFn 2 F (mCons (mVar 14) (mCons (mVar 15) mNil))) ⟨slW p a7 (.dT (tabL g u)) (encI g f) a12 (some (.own (.lst (more.map g.gs)))) (some (.dat (g.gs i)) :: some (.dat (g.st j)) :: a16 :: t), r⟩ = some (.nx (slW p a7 (.dT (tabL g u)) (encI g f) a12 (some (.own (.lst (more.map g.gs)))) (some (.dat (g.gs i)) :: some (.dat (g.st j)) :: some (.dat (g.gs (g.nx i j))) :: t)), r) := by
    simp [mSeq, mAsg, mPar, mUnp, mCons, mNil, mStar, mFn, mVar, mCst, mTup, mLst, mBin, mIfS, mIf, mTb, mTr, mTNot, mTOr, mTAnd, mAnd, mOr, mNot, mIs, mCall, f1, mNext, mRet, mRetVar, mDrop, evI, evB, datE, kept, setE, noBor_nil, noBor_cons, noBor_new, noBor_map, mapd_map, noBorK, fAdd, fSub, fMul, fMulI, fDiv, fMod, fInt, fCatL, fCatT, fLt, fLtI, fLtT, fLe, fGt, fGe, fIsN, isNon, fIsNB, ownAt, mApp, mPutT, mPutI, mSetI, frz, mFrz, truD, intsD, isTupD, isIntD, isBoolD, isStrD, isListD, isTLD, itemsD, gLen, gInt, gTuple, mNeg, mChain, mBrk, lim, mSl, mOSome, mONone, bindT, mNever, mTb, slW, h1]
  have putS : (mSeq (mPutT 11 (mVar 16) (mBin fAdd (mBin fIx (mVar 11) (mVar 14)) (mBin fIx (mVar 10) (mVar 15)))) (mApp 13 (mVar 16))) ⟨slW p a7 (.dT (tabL g u)) (encI g f) a12 (some (.own (.lst (more.map g.gs)))) (some (.dat (g.gs i)) :: some (.dat (g.st j)) :: some (.dat (g.gs (g.nx i j))) :: t), r⟩
      = some (.nx (slW p a7 (.dT (tabL g u)) (encI g (putA f (g.nx i j) (d + u.pr j))) a12 (some (.own (.lst ((more ++ [g.nx i j]).map g.gs)))) (some (.dat (g.gs i)) :: some (.dat (g.st j)) :: some (.dat (g.gs (g.nx i j))) :: t)), r) := by
    simp [mSeq, mAsg, mPar, mUnp, mCons, mNil, mStar, mFn, mVar, mCst, mTup, mLst, mBin, mIfS, mIf, mTb, mTr, mTNot, mTOr, mTAnd, mAnd, mOr, mNot, mIs, mCall, f1, mNext, mRet, mRetVar, mDrop, evI, evB, datE, kept, setE, noBor_nil, noBor_cons, noBor_new, noBor_map, mapd_map, noBorK, fAdd, fSub, fMul, fMulI, fDiv, fMod, fInt, fCatL, fCatT, fLt, fLtI, fLtT, fLe, fGt, fGe, fIsN, isNon, fIsNB, ownAt, mApp, mPutT, mPutI, mSetI, frz, mFrz, truD, intsD, isTupD, isIntD, isBoolD, isStrD, isListD, isTLD, itemsD, gLen, gInt, gTuple, mNeg, mChain, mBrk, lim, mSl, mOSome, mONone, bindT, mNever, mTb, slW, h2, hlooki, hkey, hlen2, hput, hm]
  have key : ∀ c : Bool, mTOr (mTb (mBin (fIn true) (mVar 16) (mVar 11))) (mTb (mBin fLt (mBin fAdd (mBin fIx (mVar 11) (mVar 14)) (mBin fIx (mVar 10) (mVar 15))) (mBin fIx (mVar 11) (mVar 16)))) ⟨slW p a7 (.dT (tabL g u)) (encI g f) a12 (some (.own (.lst (more.map g.gs)))) (some (.dat (g.gs i)) :: some (.dat (g.st j)) :: some (.dat (g.gs (g.nx i j))) :: t), r⟩ = some (c, r) →
      lfStep F ⟨slW p a7 (.dT (tabL g u)) (encI g f) a12 (some (.own (.lst (more.map g.gs)))) (some (.dat (g.gs i)) :: some (.dat (g.st j)) :: a16 :: t), r⟩ = if c = true then some (.nx (slW p a7 (.dT (tabL g u)) (encI g (putA f (g.nx i j) (d + u.pr j))) a12 (some (.own (.lst ((more ++ [g.nx i j]).map g.gs)))) (some (.dat (g.gs i)) :: some (.dat (g.st j)) :: some (.dat (g.gs (g.nx i j))) :: t)), r) else some (.nx (slW p a7 (.dT (tabL g u)) (encI g f) a12 (some (.own (.lst (more.map g.gs)))) (some (.dat (g.gs i)) :: some (.dat (g.st j)) :: some (.dat (g.gs (g.nx i j))) :: t)), r) := by
    intro c hc
    refine (mSeq_nx st1).trans ?_
    simp only [mIfS, hc, Option.bind_some]
    cases c with
    | true => simp only [if_true]; exact putS
    | false => rfl
  cases hl : lkA f (g.nx i j) with
  | none =>
    have hlk : lookT (encA g.gs D.int f) (g.gs (g.nx i j)) = none := by rw [hlook, hl]; rfl
    refine ⟨_, _, some (.dat (g.gs (g.nx i j))), key true ?_, .inr ⟨rfl, rfl, fun d' h => by cases h⟩⟩
    simp [mTOr, mTb, mBin, mVar, slW, fIn_dT, hkey, hlk, evB]
  | some d' =>
    have hlk : lookT (encA g.gs D.int f) (g.gs (g.nx i j)) = some (.int d') := by rw [hlook, hl]; rfl
    have hlt : fIx (encI g f) (g.gs (g.nx i j)) = some ⟨.int d', .dat⟩ := by rw [fIx_dT, if_pos hkey, hlk]; rfl
    have test : mTOr (mTb (mBin (fIn true) (mVar 16) (mVar 11))) (mTb (mBin fLt (mBin fAdd (mBin fIx (mVar 11) (mVar 14)) (mBin fIx (mVar 10) (mVar 15))) (mBin fIx (mVar 11) (mVar 16)))) ⟨slW p a7 (.dT (tabL g u)) (encI g f) a12 (some (.own (.lst (more.map g.gs)))) (some (.dat (g.gs i)) :: some (.dat (g.st j)) :: some (.dat (g.gs (g.nx i j))) :: t), r⟩ = some (decide (d + u.pr j < d'), r) := by
      simp [mTOr, mTb, mBin, mVar, slW, fIn_dT, hkey, hlk, evB, evI, fAdd, fInt, h2, hlooki, hlt, fLt, fLtI]
    have k2 := key _ test
    by_cases hx : d + u.pr j < d'
    · rw [if_pos (decide_eq_true hx)] at k2
      exact ⟨_, _, some (.dat (g.gs (g.nx i j))), k2, .inr ⟨rfl, rfl, fun d2 h => by cases h; exact hx⟩⟩
    · rw [if_neg (by simpa using hx)] at k2
      exact ⟨f, more, some (.dat (g.gs (g.nx i j))), k2, .inl ⟨rfl, rfl, d', rfl, by omega⟩⟩
end
end GD
/-! Ki -/
set_option maxHeartbeats 4000000
/-! Ki: the law's own least prices, the loops. -/
namespace GD
open PySem L2
theorem shp_list {l : List D} {n : Nat} (hn : n < 64) (h : ∀ d ∈ l, shp d = true ∧ (py d).depth ≤ n) : (shp (.lst l) = true ∧ (py (.lst l)).depth ≤ n + 1) ∧ (shp (.tup l) = true ∧ (py (.tup l)).depth ≤ n + 1) := by
  have h1 : PyData.canLayAll0 (pys l) = true ∧ PyData.depthAll (pys l) ≤ n := by
    induction l with
    | nil => exact ⟨rfl, Nat.zero_le _⟩
    | cons d l ih =>
      obtain ⟨i1, i2⟩ := ih fun x hx => h x (List.mem_cons_of_mem _ hx)
      obtain ⟨a1, a2⟩ := h d List.mem_cons_self
      have a3 := shp_lay a1
      simp only [pys, PyData.canLayAll0, PyData.depthAll]
      refine ⟨by rw [a3, i1]; rfl, ?_⟩
      omega
  have h2 : PyData.depthAll (pys l) + 1 ≤ n + 1 := by omega
  have e1 : (py (.lst l)).depth = PyData.depthAll (pys l) + 1 := by simp [py, PyData.depth, Nat.add_comm]
  have e2 : (py (.tup l)).depth = PyData.depthAll (pys l) + 1 := by simp [py, PyData.depth, Nat.add_comm]
  refine ⟨⟨?_, by rw [e1]; exact h2⟩, ⟨?_, by rw [e2]; exact h2⟩⟩
  · unfold shp SeqAt.shaped
    rw [Bool.and_eq_true, decide_eq_true_eq, e1]
    exact ⟨h1.1, by omega⟩
  · unfold shp SeqAt.shaped
    rw [Bool.and_eq_true, decide_eq_true_eq, e2]
    exact ⟨h1.1, by omega⟩
theorem fNe_nil {l : List D} (h : shp (.lst l) = true) : fNe (.lst l) (.lst []) = some ⟨.bl (!l.isEmpty), .dat⟩ := by
  have h2 : shp (.lst []) = true := rfl
  unfold fNe
  rw [h, h2]
  cases l <;> rfl
theorem fEq_nil {l : List D} (h : shp (.lst l) = true) : fEq (.lst l) (.lst []) = some ⟨.bl l.isEmpty, .dat⟩ := by
  have h2 : shp (.lst []) = true := rfl
  unfold fEq
  rw [h, h2]
  cases l <;> rfl
section
variable {g : Gp} {u : Nu} {s : Nat}
def isD (a : Option SV) (d : D) : Prop := a = some (.dat d) ∨ a = some (.own d)
abbrev stD (g : Gp) : D := .lst ((List.range g.S).map g.st)
theorem frz_slW {p : Pre} {a7 : Option SV} {d tb ls : D} {a12 a13 : Option SV} {t : Sl} (h : isD a7 d) : frz 7 (slW p a7 tb ls a12 a13 t) = slW p (some (.dat d)) tb ls a12 a13 t := by
  rcases h with rfl | rfl <;> rfl
theorem frz12_slW {p : Pre} {a7 : Option SV} {d tb ls : D} {a12 a13 : Option SV} {t : Sl} (h : isD a12 d) : frz 12 (slW p a7 tb ls a12 a13 t) = slW p a7 tb ls (some (.dat d)) a13 t := by
  rcases h with rfl | rfl <;> rfl
theorem lf_inner {F : MF} (ok : GpOk g) (nu : NuOk g u) (hs : s < g.B) (hF : ∀ i j r, i < g.B → j < g.S → F [g.gs i, g.st j] r = some (⟨g.gs (g.nx i j), .dat⟩, r)) {f : List (Nat × Int)} {more : List Nat} {i : Nat} {d : Int} {p : Pre} {a7 a12 a15 a16 : Option SV} {t : Sl} {r : Rw} (sd : Ld g u s f) (e : lkA f i = some d) (ha7 : isD a7 (stD g)) (hm : more.length + muL g f ≤ 1000) (hb : ∀ k ∈ more, k < g.B) :
    ∃ (f' : List (Nat × Int)) (more' : List Nat) (c15 c16 : Option SV), (mFrz 7 (mForS (.one 15) (mIt (mVar 7)) (lfStep F))) ⟨slW p a7 (.dT (tabL g u)) (encI g f) a12 (some (.own (.lst (more.map g.gs)))) (some (.dat (g.gs i)) :: a15 :: a16 :: t), r⟩ = some (.nx (slW p (some (.dat (stD g))) (.dT (tabL g u)) (encI g f') a12 (some (.own (.lst (more'.map g.gs)))) (some (.dat (g.gs i)) :: c15 :: c16 :: t)), r) ∧
      Ld g u s f' ∧ (∀ k ∈ f.map (·.1), k ∈ f'.map (·.1)) ∧ more'.length + muL g f' ≤ more.length + muL g f ∧ (∀ k ∈ more', k < g.B ∧ k ∈ f'.map (·.1) ∨ k ∈ more) ∧ (∀ k ∈ more, k ∈ more') ∧ (∀ j, j < g.S → ClL g u f' i j) ∧ (∀ k, k ≠ i → (∀ m, m < g.S → ClL g u f k m) → ((∀ m, m < g.S → ClL g u f' k m) ∨ k ∈ more')) := by
  obtain ⟨sl', h1, f', more', c15, c16, rfl, h3, h4, h5, h6, h7, h8, h9, h10⟩ := mFor_rel (t := .one 15) (body := lfStep F) (r := r) g.st
    (fun Q sl => ∃ (f' : List (Nat × Int)) (more' : List Nat) (c15 c16 : Option SV), sl = slW p (some (.dat (stD g))) (.dT (tabL g u)) (encI g f') a12 (some (.own (.lst (more'.map g.gs)))) (some (.dat (g.gs i)) :: c15 :: c16 :: t) ∧ Ld g u s f' ∧ lkA f' i = some d ∧ (∀ k ∈ f.map (·.1), k ∈ f'.map (·.1)) ∧ more'.length + muL g f' ≤ more.length + muL g f ∧ (∀ k ∈ more', k < g.B ∧ k ∈ f'.map (·.1) ∨ k ∈ more) ∧ (∀ k ∈ more, k ∈ more') ∧ (∀ j ∈ Q, ClL g u f' i j) ∧ (∀ k, k ≠ i → (∀ m, m < g.S → ClL g u f k m) → ((∀ m, m < g.S → ClL g u f' k m) ∨ k ∈ more')))
    (List.range g.S) (List.range g.S) [] (slW p (some (.dat (stD g))) (.dT (tabL g u)) (encI g f) a12 (some (.own (.lst (more.map g.gs)))) (some (.dat (g.gs i)) :: a15 :: a16 :: t)) rfl
    (fun P j rest sl hp ⟨f1, m1, d15, d16, e1, q1, q2, q3, q4, q5, q6, q7, q8⟩ => by
      subst e1
      have hj : j < g.S := by
        have : j ∈ List.range g.S := by rw [← hp]; simp
        exact List.mem_range.mp this
      obtain ⟨f2, m2, c16, w1, w2⟩ := lf_step (more := m1) (p := p) (a7 := some (.dat (stD g))) (a12 := a12) (a16 := d16) (t := t) (r := r) ok nu hs hF q1 q2 hj (by omega)
      refine ⟨_, _, rfl, w1, f2, m2, some (.dat (g.st j)), c16, rfl, ?_⟩
      rcases w2 with ⟨rfl, rfl, d', w3, w4⟩ | ⟨rfl, rfl, w3⟩
      · refine ⟨q1, q2, q3, q4, q5, q6, fun k hk => ?_, q8⟩
        rcases List.mem_append.mp hk with hk | hk
        · exact q7 k hk
        · simp at hk
          subst hk
          intro d2 hd2
          rw [q2] at hd2
          cases hd2
          exact ⟨d', w3, w4⟩
      · obtain ⟨z1, z2, z3⟩ := q1.relax ok nu hs q2 hj w3
        have hi := q1.lt q2
        have hkeys : ∀ k ∈ f1.map (·.1), k ∈ (putA f1 (g.nx i j) (d + u.pr j)).map (·.1) := by
          intro k hk
          rw [putA_keys]
          split
          · exact hk
          · exact List.mem_append_left _ hk
        have hkt : g.nx i j ∈ (putA f1 (g.nx i j) (d + u.pr j)).map (·.1) := by
          rw [putA_keys]
          split
          · assumption
          · simp
        refine ⟨z1, by rw [lkA_put, if_neg (fun z => z2 z.symm)]; exact q2, fun k hk => hkeys k (q3 k hk), ?_, fun k hk => ?_, fun k hk => List.mem_append_left _ (q6 k hk), fun k hk => ?_, fun k hki hcl => ?_⟩
        · rw [List.length_append, List.length_singleton]
          omega
        · rcases List.mem_append.mp hk with hk | hk
          · rcases q5 k hk with ⟨y1, y2⟩ | y
            · exact .inl ⟨y1, hkeys k y2⟩
            · exact .inr y
          · simp at hk
            subst hk
            exact .inl ⟨ok.nxlt i j hi hj, hkt⟩
        · rcases List.mem_append.mp hk with hk | hk
          · exact ClL.put w3 (fun z => z2 z.symm) (q7 k hk)
          · simp at hk
            subst hk
            intro d2 hd2
            rw [lkA_put, if_neg (fun z => z2 z.symm), q2] at hd2
            cases hd2
            exact ⟨_, by rw [lkA_put, if_pos rfl], Int.le_refl _⟩
        · by_cases hkt : k = g.nx i j
          · exact .inr (List.mem_append_right _ (by simp [hkt]))
          · rcases q8 k hki hcl with y | y
            · exact .inl fun m hm => ClL.put w3 hkt (y m hm)
            · exact .inr (List.mem_append_left _ y))
    ⟨f, more, a15, a16, rfl, sd, e, fun k hk => hk, Nat.le_refl _, fun k hk => .inr hk, fun k hk => hk, fun j hj => (by cases hj), fun k _ h => .inl h⟩
  refine ⟨f', more', c15, c16, ?_, h3, h5, h6, h7, h8, fun j hj => h9 j (List.mem_range.mpr hj), h10⟩
  unfold mFrz
  simp only
  rw [frz_slW ha7]
  exact (mForS_eq (s := ⟨slW p (some (.dat (stD g))) (.dT (tabL g u)) (encI g f) a12 (some (.own (.lst (more.map g.gs)))) (some (.dat (g.gs i)) :: a15 :: a16 :: t), r⟩) (L := (List.range g.S).map g.st) rfl).trans h1
end
end GD
/-! Kj -/
set_option maxHeartbeats 4000000
/-! Kj: the law's own least prices, rounds. -/
namespace GD
open PySem L2
section
variable {g : Gp} {u : Nu} {s : Nat}
def lwD (g : Gp) (w : List Nat) : D := .lst (w.map g.gs)
theorem lf_mid {F : MF} (ok : GpOk g) (nu : NuOk g u) (hs : s < g.B) (hF : ∀ i j r, i < g.B → j < g.S → F [g.gs i, g.st j] r = some (⟨g.gs (g.nx i j), .dat⟩, r)) {f : List (Nat × Int)} {walk : List Nat} {p : Pre} {a7 a12 a14 a15 a16 : Option SV} {t : Sl} {r : Rw} (sd : Ld g u s f) (ha7 : isD a7 (stD g)) (ha12 : isD a12 (lwD g walk)) (hm : muL g f ≤ 1000)
    (hw : ∀ k ∈ walk, k ∈ f.map (·.1)) (hcl : ∀ k, (∀ m, m < g.S → ClL g u f k m) ∨ k ∈ walk) :
    ∃ (f' : List (Nat × Int)) (more : List Nat) (c7 c14 c15 c16 : Option SV), (mFrz 12 (mForS (.one 14) (mIt (mVar 12)) (mFrz 7 (mForS (.one 15) (mIt (mVar 7)) (lfStep F))))) ⟨slW p a7 (.dT (tabL g u)) (encI g f) a12 (some (.own (.lst []))) (a14 :: a15 :: a16 :: t), r⟩ = some (.nx (slW p c7 (.dT (tabL g u)) (encI g f') (some (.dat (lwD g walk))) (some (.own (lwD g more))) (c14 :: c15 :: c16 :: t)), r) ∧
      isD c7 (stD g) ∧ Ld g u s f' ∧ more.length + muL g f' ≤ muL g f ∧ (∀ k ∈ more, k ∈ f'.map (·.1)) ∧ (∀ k, (∀ m, m < g.S → ClL g u f' k m) ∨ k ∈ more) := by
  obtain ⟨sl', h1, f', more, c7, c14, c15, c16, rfl, h3, h4, h5, h6, h7, h8⟩ := mFor_rel (t := .one 14) (body := (mFrz 7 (mForS (.one 15) (mIt (mVar 7)) (lfStep F)))) (r := r) g.gs
    (fun Q sl => ∃ (f' : List (Nat × Int)) (more : List Nat) (c7 c14 c15 c16 : Option SV), sl = slW p c7 (.dT (tabL g u)) (encI g f') (some (.dat (lwD g walk))) (some (.own (lwD g more))) (c14 :: c15 :: c16 :: t) ∧ isD c7 (stD g) ∧ Ld g u s f' ∧ (∀ k ∈ f.map (·.1), k ∈ f'.map (·.1)) ∧ more.length + muL g f' ≤ muL g f ∧ (∀ k ∈ more, k < g.B ∧ k ∈ f'.map (·.1)) ∧ (∀ k, (k ∈ Q ∨ k ∉ walk) → ((∀ m, m < g.S → ClL g u f' k m) ∨ k ∈ more)))
    walk walk [] (slW p a7 (.dT (tabL g u)) (encI g f) (some (.dat (lwD g walk))) (some (.own (.lst []))) (a14 :: a15 :: a16 :: t)) rfl
    (fun P i rest sl hp ⟨f1, m1, d7, d14, d15, d16, e1, q1, q2, q3, q4, q5, q6⟩ => by
      subst e1
      have hiw : i ∈ walk := by rw [← hp]; simp
      obtain ⟨d, hd⟩ := lkA_key (q3 i (hw i hiw))
      obtain ⟨f2, m2, c15, c16, w1, w2, w3, w4, w5, w6, w7, w8⟩ := lf_inner (more := m1) (p := p) (a7 := d7) (a12 := some (.dat (lwD g walk))) (a15 := d15) (a16 := d16) (t := t) (r := r) ok nu hs hF q2 hd q1 (by omega) (fun k hk => (q5 k hk).1)
      refine ⟨_, _, rfl, w1, f2, m2, some (.dat (stD g)), some (.dat (g.gs i)), c15, c16, rfl, .inl rfl, w2, fun k hk => w3 k (q3 k hk), by omega, fun k hk => ?_, fun k hk => ?_⟩
      · rcases w5 k hk with y | y
        · exact y
        · exact ⟨(q5 k y).1, w3 k (q5 k y).2⟩
      · by_cases hki : k = i
        · subst hki
          exact .inl w7
        · have hk2 : k ∈ P ∨ k ∉ walk := by
            rcases hk with hk | hk
            · rcases List.mem_append.mp hk with hk | hk
              · exact .inl hk
              · simp at hk; exact absurd hk hki
            · exact .inr hk
          rcases q6 k hk2 with y | y
          · exact w8 k hki y
          · exact .inr (w6 k y))
    ⟨f, [], a7, a14, a15, a16, rfl, ha7, sd, fun k hk => hk, by simp, fun k hk => (by cases hk), fun k hk => by
      rcases hk with hk | hk
      · cases hk
      · exact .inl ((hcl k).resolve_right hk)⟩
  refine ⟨f', more, c7, c14, c15, c16, ?_, h3, h4, h6, fun k hk => (h7 k hk).2, fun k => ?_⟩
  · unfold mFrz
    simp only
    rw [frz12_slW ha12]
    exact (mForS_eq (s := ⟨slW p a7 (.dT (tabL g u)) (encI g f) (some (.dat (lwD g walk))) (some (.own (.lst []))) (a14 :: a15 :: a16 :: t), r⟩) (L := walk.map g.gs) rfl).trans h1
  · by_cases hk : k ∈ walk
    · exact h8 k (.inl hk)
    · exact h8 k (.inr hk)
theorem muL_le (ok : GpOk g) {f : List (Nat × Int)} (sd : Ld g u s f) : muL g f ≤ 200 := by
  have h : ∀ t, poL (lkA f t) ≤ 30 := by
    intro t
    cases hl : lkA f t with
    | none => exact Nat.le_refl _
    | some d =>
      have := (sd.ok t d hl).2
      have := sd.len ok
      show d.toNat ≤ 30
      omega
  have : ∀ L : List Nat, (L.map fun t => poL (lkA f t)).sum ≤ 30 * L.length := by
    intro L
    induction L with
    | nil => simp
    | cons a L ih => simp only [List.map_cons, List.sum_cons, List.length_cons]; have := h a; omega
  have h2 := this (List.range g.B)
  rw [List.length_range] at h2
  have := ok.b5
  unfold muL
  omega
theorem lf_while {F : MF} (ok : GpOk g) (nu : NuOk g u) (hs : s < g.B) (hF : ∀ i j r, i < g.B → j < g.S → F [g.gs i, g.st j] r = some (⟨g.gs (g.nx i j), .dat⟩, r)) {p : Pre} {a7 a13 a14 a15 a16 : Option SV} {t : Sl} {r : Rw} (ha7 : isD a7 (stD g)) {n : Nat} (hn : 1000 < n) :
    ∃ (f : List (Nat × Int)) (c7 c12 c13 c14 c15 c16 : Option SV), mWh (mTb (mBin fNe (mVar 12) (mLst mNil)))
 (mSeq (mAsg 13 (mLst mNil)) (mSeq (mFrz 12 (mForS (.one 14) (mIt (mVar 12)) (mFrz 7 (mForS (.one 15) (mIt (mVar 7)) (lfStep F))))) (mFrz 13 (mAsg 12 (mVar 13))))) n
      ⟨slW p a7 (.dT (tabL g u)) (encI g [(s, 0)]) (some (.own (lwD g [s]))) a13 (a14 :: a15 :: a16 :: t), r⟩ = some (.nx (slW p c7 (.dT (tabL g u)) (encI g f) c12 c13 (c14 :: c15 :: c16 :: t)), r) ∧ isD c7 (stD g) ∧ Ld g u s f ∧ ∀ i j, j < g.S → ClL g u f i j := by
  have sd0 : Ld g u s [(s, 0)] := by
    refine ⟨fun i hi => ?_, by simp, ⟨0, by simp [lkA], Int.le_refl _⟩, fun i d hl => ?_⟩
    · simp at hi; subst hi; exact hs
    · rw [lkA_cons, lkA_nil] at hl
      split at hl
      · rename_i h
        cases hl
        exact ⟨⟨[], fun j hj => (nomatch hj), h, rfl⟩, by simp⟩
      · cases hl
  have shpw : ∀ (f : List (Nat × Int)) (walk : List Nat), Ld g u s f → (∀ k ∈ walk, k ∈ f.map (·.1)) → shp (lwD g walk) = true := by
    intro f walk sd hw
    refine (shp_list (n := 8) (by omega) fun d hd => ?_).1.1
    obtain ⟨k, hk, rfl⟩ := List.mem_map.mp hd
    have := ok.gshp k (sd.keys k (hw k hk))
    exact ⟨this.1, this.2.1⟩
  obtain ⟨⟨f, walk⟩, sl', h1, ⟨c7, c12, c13, c14, c15, c16, rfl, z1, z2, z3, z4, z5⟩, h5⟩ := mWh_sim (t := (mTb (mBin fNe (mVar 12) (mLst mNil)))) (body := (mSeq (mAsg 13 (mLst mNil)) (mSeq (mFrz 12 (mForS (.one 14) (mIt (mVar 12)) (mFrz 7 (mForS (.one 15) (mIt (mVar 7)) (lfStep F))))) (mFrz 13 (mAsg 12 (mVar 13)))))) (r := r)
    (fun (x : List (Nat × Int) × List Nat) sl => ∃ (c7 c12 c13 c14 c15 c16 : Option SV), sl = slW p c7 (.dT (tabL g u)) (encI g x.1) c12 c13 (c14 :: c15 :: c16 :: t) ∧ isD c7 (stD g) ∧ isD c12 (lwD g x.2) ∧ Ld g u s x.1 ∧ (∀ k ∈ x.2, k ∈ x.1.map (·.1)) ∧ (∀ k, (∀ m, m < g.S → ClL g u x.1 k m) ∨ k ∈ x.2)) (fun x => muL g x.1) (fun x => !x.2.isEmpty)
    (fun x sl ⟨c7, c12, c13, c14, c15, c16, e, y1, y2, y3, y4, y5⟩ => by
      subst e
      have h := fNe_nil (shpw x.1 x.2 y3 y4)
      have he : (List.map g.gs x.2).isEmpty = x.2.isEmpty := by cases x.2 <;> rfl
      rw [he] at h
      have h : fNe (lwD g x.2) (.lst []) = some ⟨.bl (!x.2.isEmpty), .dat⟩ := h
      rcases y2 with rfl | rfl
      · simp [mTb, mBin, mVar, mLst, mNil, slW, noBor_nil, h, lim]
      · simp [mTb, mBin, mVar, mLst, mNil, slW, noBor_nil, h, lim])
    (fun x sl ⟨c7, c12, c13, c14, c15, c16, e, y1, y2, y3, y4, y5⟩ hc => by
      subst e
      obtain ⟨f', more, d7, d14, d15, d16, w1, w2, w3, w4, w5, w6⟩ := lf_mid (p := p) (a7 := c7) (a12 := c12) (a14 := c14) (a15 := c15) (a16 := c16) (t := t) (r := r) ok nu hs hF y3 y1 y2 (by have := muL_le ok y3; omega) y4 y5
      have h0 : mAsg 13 (mLst mNil) ⟨slW p c7 (.dT (tabL g u)) (encI g x.1) c12 c13 (c14 :: c15 :: c16 :: t), r⟩ = some (.nx (slW p c7 (.dT (tabL g u)) (encI g x.1) c12 (some (.own (.lst []))) (c14 :: c15 :: c16 :: t)), r) := by
        simp [mAsg, mLst, mNil, slW, noBor_nil, kept, lim]
      have h2 : (mFrz 13 (mAsg 12 (mVar 13))) ⟨slW p d7 (.dT (tabL g u)) (encI g f') (some (.dat (lwD g x.2))) (some (.own (lwD g more))) (d14 :: d15 :: d16 :: t), r⟩ = some (.nx (slW p d7 (.dT (tabL g u)) (encI g f') (some (.dat (lwD g more))) (some (.dat (lwD g more))) (d14 :: d15 :: d16 :: t)), r) := by
        simp [mFrz, frz, mAsg, mVar, slW, kept]
      refine ⟨(f', more), _, ?_, ⟨d7, some (.dat (lwD g more)), some (.dat (lwD g more)), d14, d15, d16, rfl, w2, .inl rfl, w3, w5, w6⟩, fun hm => ?_⟩
      · rw [mSeq_nx h0, mSeq_nx w1]
        exact h2
      · show muL g f' < muL g x.1
        cases more with
        | nil => cases hm
        | cons a l => rw [List.length_cons] at w4; omega)
    n ([(s, 0)], [s]) _ (fun _ => by have := muL_le ok sd0; show muL g [(s, 0)] + 1 < n; omega) (by omega) ⟨a7, some (.own (lwD g [s])), a13, a14, a15, a16, rfl, ha7, .inr rfl, sd0, fun k hk => (by simpa using hk), fun k => by
      by_cases hk : k = s
      · exact .inr (by simp [hk])
      · refine .inl fun m hm d hd => ?_
        rw [lkA_cons, if_neg (fun z => hk z.symm), lkA_nil] at hd
        cases hd⟩
  have hw : walk = [] := by
    cases walk with
    | nil => rfl
    | cons a l => cases h5
  subst hw
  refine ⟨f, c7, c12, c13, c14, c15, c16, h1, z1, z3, fun i j hj => ?_⟩
  rcases z5 i with y | y
  · exact y j hj
  · cases y
theorem reachL {f : List (Nat × Int)} (sd : Ld g u s f) (cl : ∀ i j, j < g.S → ClL g u f i j) (w : List Nat) : valid g w → ∃ d, lkA f (wk g s w) = some d ∧ d ≤ cost u w := by
  have : ∀ w : List Nat, valid g w.reverse → ∃ l, lkA f (wk g s w.reverse) = some l ∧ l ≤ cost u w.reverse := by
    intro w
    induction w with
    | nil =>
      intro _
      obtain ⟨l, h1, h2⟩ := sd.start
      exact ⟨l, h1, by simpa [cost] using h2⟩
    | cons j w ih =>
      intro hv
      rw [List.reverse_cons] at hv ⊢
      obtain ⟨l, h1, h2⟩ := ih fun k hk => hv k (List.mem_append_left _ hk)
      obtain ⟨l', h3, h4⟩ := cl (wk g s w.reverse) j (hv j (by simp)) l h1
      rw [wk_snoc, cost_snoc]
      exact ⟨l', h3, by omega⟩
  have h := this w.reverse
  rw [List.reverse_reverse] at h
  exact h
/-- the greatest of the worths less the least prices -/
theorem best_max (ok : GpOk g) {f : List (Nat × Int)} (sd : Ld g u s f) (cl : ∀ i j, j < g.S → ClL g u f i j) {b : Int} {w0 : List Nat} (hv : valid g w0) (h0 : val g u s w0 = b) (hb : ∀ w, valid g w → val g u s w ≤ b) : maxI (f.map fun q => u.W q.1 - (lkA f q.1).getD 0) = some b := by
  refine maxI_spec ?_ fun y hy => ?_
  · obtain ⟨d, h1, h2⟩ := reachL sd cl w0 hv
    obtain ⟨⟨w, v1, v2, v3⟩, _⟩ := sd.ok _ d h1
    refine List.mem_map.mpr ⟨_, lkA_mem h1, ?_⟩
    rw [h1]
    show u.W (wk g s w0) - d = b
    have := hb w v1
    unfold val at this h0
    rw [v2, v3] at this
    omega
  · obtain ⟨q, hq, rfl⟩ := List.mem_map.mp hy
    obtain ⟨d, h1⟩ := lkA_key (List.mem_map.mpr ⟨q, hq, rfl⟩)
    rw [h1]
    obtain ⟨⟨w, v1, v2, v3⟩, _⟩ := sd.ok _ d h1
    have := hb w v1
    unfold val at this
    rw [v2, v3] at this
    exact this
end
end GD
/-! Kk -/
set_option maxHeartbeats 4000000
/-! Kk: tables. -/
namespace GD
open PySem L2
theorem intsD_map : ∀ l : List Int, intsD (l.map D.int) = some l
  | [] => rfl
  | i :: l => by simp [intsD, intsD_map l]
theorem gMax_lst (l : List D) : gMax (.lst l) = (intsD l).bind fun ns => (maxI ns).map evI := rfl
theorem maxI_some {l : List Int} (h : l ≠ []) : ∃ m, maxI l = some m := by
  cases l with
  | nil => exact absurd rfl h
  | cons i l =>
    unfold maxI
    cases maxI l <;> exact ⟨_, rfl⟩
section
variable {g : Gp} {u : Nu} {s : Nat}
def Tb (g : Gp) (u : Nu) : Nat → Nat → Int
  | 0, _ => 0
  | k + 1, i => (maxI (u.prm.map fun j => u.W (g.nx i j) - u.pr j + Tb g u k (g.nx i j))).getD 0
def cand (g : Gp) (u : Nu) (k i j : Nat) : Int := u.W (g.nx i j) - u.pr j + Tb g u k (g.nx i j)
theorem Tb_succ (ok : GpOk g) (nu : NuOk g u) (k i : Nat) : maxI (u.prm.map (cand g u k i)) = some (Tb g u (k + 1) i) := by
  have : u.prm.map (cand g u k i) ≠ [] := by
    intro h
    have h0 : (0 : Nat) ∈ u.prm := (nu.prm 0).mpr (by have := ok.s1; omega)
    have := List.map_eq_nil_iff.mp h
    rw [this] at h0
    cases h0
  obtain ⟨m, hm⟩ := maxI_some this
  have e : Tb g u (k + 1) i = (maxI (u.prm.map (cand g u k i))).getD 0 := rfl
  rw [e, hm]; rfl
abbrev tbF (g : Gp) (u : Nu) (k : Nat) (L : List Nat) : List (Nat × Int) := L.map fun i => (i, Tb g u k i)
def tbD (g : Gp) (u : Nu) (k : Nat) : D := .dT (encA g.gs D.int (tbF g u k (List.range g.B)))
theorem tbF_keys (k : Nat) (L : List Nat) : (tbF g u k L).map (·.1) = L := by
  unfold tbF
  rw [List.map_map]
  exact List.map_id L
theorem tbF_look (k : Nat) {L : List Nat} {i : Nat} (h : i ∈ L) : lkA (tbF g u k L) i = some (Tb g u k i) := by
  induction L with
  | nil => cases h
  | cons a L ih =>
    unfold tbF
    rw [List.map_cons, lkA_cons]
    by_cases ha : a = i
    · simp [ha]
    · rw [if_neg ha]
      exact ih ((List.mem_cons.mp h).resolve_left fun z => ha z.symm)
theorem fIx_tbD (ok : GpOk g) {k i : Nat} (hi : i < g.B) : fIx (tbD g u k) (g.gs i) = some ⟨.int (Tb g u k i), .dat⟩ := by
  unfold tbD
  rw [fIx_dT, if_pos (ok.gkey i hi), look_enc ok.gkeq (by rw [tbF_keys]; exact fun k hk => List.mem_range.mp hk) hi, tbF_look k (List.mem_range.mpr hi)]; rfl
def slT (g : Gp) (u : Nu) (K : Nat) (a4 a5 : Option SV) (tbs : List D) (a7 : Option SV) (t : Sl) : Sl := some (.dat (.int g.n)) :: some (.dat u.lk) :: some (.dat u.ps) :: some (.dat (.int K)) :: a4 :: a5 :: some (.own (.lst tbs)) :: a7 :: t
abbrev tbStep (F1 F2 : MF) : MSt := (mSeq (mAsg 12 (mFn 2 F1 (mCons (mVar 9) (mCons (mVar 11) mNil))))
 (mApp 10 (mBin fAdd (mBin fSub (mFn 2 F2 (mCons (mVar 12) (mCons (mVar 1) mNil))) (mBin fIx (mVar 4) (mVar 11))) (mBin fIx (mBin fIx (mVar 6) (mNeg (mCst (.int 1)))) (mVar 12)))))
abbrev tbOne (F1 F2 : MF) : MSt := (mSeq (mAsg 10 (mLst mNil))
 (mSeq (mFrz 4 (mForS (.one 11) (mIt (mVar 4)) (tbStep F1 F2)))
 (mPutT 8 (mVar 9) (mCall (f1 gMax) (mCons (mVar 10) mNil)))))
theorem tb_step {F1 F2 : MF} (ok : GpOk g) (nu : NuOk g u) (h1 : ∀ i j r, i < g.B → j < g.S → F1 [g.gs i, g.st j] r = some (⟨g.gs (g.nx i j), .dat⟩, r)) (h2 : ∀ i r, i < g.B → F2 [g.gs i, u.lk] r = some (⟨.int (u.W i), .dat⟩, r))
    {K k i j : Nat} {a5 a7 a8 a12 : Option SV} {I tot : List D} {r : Rw} (hi : i < g.B) (hj : j < g.S) (hl : tot.length < 1000000) :
    tbStep F1 F2 ⟨slT g u K (some (.dat (.dT (tabD g u)))) a5 (I ++ [tbD g u k]) a7 [a8, some (.dat (g.gs i)), some (.own (.lst tot)), some (.dat (g.st j)), a12], r⟩ = some (.nx (slT g u K (some (.dat (.dT (tabD g u)))) a5 (I ++ [tbD g u k]) a7 [a8, some (.dat (g.gs i)), some (.own (.lst (tot ++ [.int (cand g u k i j)]))), some (.dat (g.st j)), some (.dat (g.gs (g.nx i j)))]), r) := by
  have ht := ok.nxlt i j hi hj
  have e1 := h1 i j r hi hj
  have e2 := h2 _ r ht
  have e3 := fIx_tab ok nu hj
  have e4 := fIx_last I (tbD g u k)
  have e5 := fIx_tbD (u := u) ok (k := k) ht
  simp [mSeq, mAsg, mPar, mUnp, mCons, mNil, mStar, mFn, mVar, mCst, mTup, mLst, mBin, mIfS, mIf, mTb, mTr, mTNot, mTOr, mTAnd, mAnd, mOr, mNot, mIs, mCall, f1, mNext, mRet, mRetVar, mDrop, evI, evB, datE, kept, setE, noBor_nil, noBor_cons, noBor_new, noBor_map, mapd_map, noBorK, fAdd, fSub, fMul, fMulI, fDiv, fMod, fInt, fCatL, fCatT, fLt, fLtI, fLtT, fLe, fGt, fGe, fIsN, isNon, fIsNB, ownAt, mApp, mPutT, mPutI, mSetI, frz, mFrz, truD, intsD, isTupD, isIntD, isBoolD, isStrD, isListD, isTLD, itemsD, gLen, gInt, gTuple, mNeg, mChain, mBrk, lim, mSl, mOSome, mONone, bindT, mNever, mTb, slT, e1, e2, e3, e4, e5, hl, cand]
theorem tb_one {F1 F2 : MF} (ok : GpOk g) (nu : NuOk g u) (h1 : ∀ i j r, i < g.B → j < g.S → F1 [g.gs i, g.st j] r = some (⟨g.gs (g.nx i j), .dat⟩, r)) (h2 : ∀ i r, i < g.B → F2 [g.gs i, u.lk] r = some (⟨.int (u.W i), .dat⟩, r))
    {K k i : Nat} {a4 a5 a7 a10 a11 a12 : Option SV} {I : List D} {P : List Nat} {r : Rw} (ha4 : isD a4 (.dT (tabD g u))) (hi : i < g.B) (hP : ∀ m ∈ P, m < g.B) (hn : i ∉ P) (hl : P.length < 1000000) :
    ∃ c10 c11 c12, tbOne F1 F2 ⟨slT g u K a4 a5 (I ++ [tbD g u k]) a7 [some (.own (.dT (encA g.gs D.int (tbF g u (k + 1) P)))), some (.dat (g.gs i)), a10, a11, a12], r⟩ = some (.nx (slT g u K (some (.dat (.dT (tabD g u)))) a5 (I ++ [tbD g u k]) a7 [some (.own (.dT (encA g.gs D.int (tbF g u (k + 1) (P ++ [i]))))), some (.dat (g.gs i)), c10, c11, c12]), r) := by
  have s1 : mAsg 10 (mLst mNil) ⟨slT g u K a4 a5 (I ++ [tbD g u k]) a7 [some (.own (.dT (encA g.gs D.int (tbF g u (k + 1) P)))), some (.dat (g.gs i)), a10, a11, a12], r⟩ = some (.nx (slT g u K a4 a5 (I ++ [tbD g u k]) a7 [some (.own (.dT (encA g.gs D.int (tbF g u (k + 1) P)))), some (.dat (g.gs i)), some (.own (.lst [])), a11, a12]), r) := by
    simp [mSeq, mAsg, mPar, mUnp, mCons, mNil, mStar, mFn, mVar, mCst, mTup, mLst, mBin, mIfS, mIf, mTb, mTr, mTNot, mTOr, mTAnd, mAnd, mOr, mNot, mIs, mCall, f1, mNext, mRet, mRetVar, mDrop, evI, evB, datE, kept, setE, noBor_nil, noBor_cons, noBor_new, noBor_map, mapd_map, noBorK, fAdd, fSub, fMul, fMulI, fDiv, fMod, fInt, fCatL, fCatT, fLt, fLtI, fLtT, fLe, fGt, fGe, fIsN, isNon, fIsNB, ownAt, mApp, mPutT, mPutI, mSetI, frz, mFrz, truD, intsD, isTupD, isIntD, isBoolD, isStrD, isListD, isTLD, itemsD, gLen, gInt, gTuple, mNeg, mChain, mBrk, lim, mSl, mOSome, mONone, bindT, mNever, mTb, slT]
  obtain ⟨sl', w1, c11, c12, rfl⟩ := mFor_rel (t := .one 11) (body := tbStep F1 F2) (r := r) g.st
    (fun Q sl => ∃ c11 c12, sl = slT g u K (some (.dat (.dT (tabD g u)))) a5 (I ++ [tbD g u k]) a7 [some (.own (.dT (encA g.gs D.int (tbF g u (k + 1) P)))), some (.dat (g.gs i)), some (.own (.lst ((Q.map (cand g u k i)).map D.int))), c11, c12])
    u.prm u.prm [] _ rfl
    (fun Q j rest sl hp ⟨d11, d12, e⟩ => by
      subst e
      have hj : j < g.S := (nu.prm j).mp (by rw [← hp]; simp)
      have hQ : ((Q.map (cand g u k i)).map D.int).length < 1000000 := by
        rw [List.length_map, List.length_map]
        have : Q.length ≤ u.prm.length := by rw [← hp]; simp
        have := nu.pl
        omega
      refine ⟨_, _, rfl, tb_step ok nu h1 h2 hi hj hQ, some (.dat (g.st j)), some (.dat (g.gs (g.nx i j))), ?_⟩
      rw [List.map_append, List.map_append]; rfl)
    ⟨a11, a12, rfl⟩
  have s2 : (mFrz 4 (mForS (.one 11) (mIt (mVar 4)) (tbStep F1 F2))) ⟨slT g u K a4 a5 (I ++ [tbD g u k]) a7 [some (.own (.dT (encA g.gs D.int (tbF g u (k + 1) P)))), some (.dat (g.gs i)), some (.own (.lst [])), a11, a12], r⟩ = some (.nx (slT g u K (some (.dat (.dT (tabD g u)))) a5 (I ++ [tbD g u k]) a7 [some (.own (.dT (encA g.gs D.int (tbF g u (k + 1) P)))), some (.dat (g.gs i)), some (.own (.lst ((u.prm.map (cand g u k i)).map D.int))), c11, c12]), r) := by
    unfold mFrz
    simp only
    have e : frz 4 (slT g u K a4 a5 (I ++ [tbD g u k]) a7 [some (.own (.dT (encA g.gs D.int (tbF g u (k + 1) P)))), some (.dat (g.gs i)), some (.own (.lst [])), a11, a12]) = slT g u K (some (.dat (.dT (tabD g u)))) a5 (I ++ [tbD g u k]) a7 [some (.own (.dT (encA g.gs D.int (tbF g u (k + 1) P)))), some (.dat (g.gs i)), some (.own (.lst [])), a11, a12] := by
      rcases ha4 with rfl | rfl <;> rfl
    rw [e]
    have hk : (tabD g u).map (·.1) = u.prm.map g.st := by
      unfold tabD
      rw [List.map_map]; rfl
    have hit : mIt (mVar 4) ⟨slT g u K (some (.dat (.dT (tabD g u)))) a5 (I ++ [tbD g u k]) a7 [some (.own (.dT (encA g.gs D.int (tbF g u (k + 1) P)))), some (.dat (g.gs i)), some (.own (.lst [])), a11, a12], r⟩ = some (u.prm.map g.st, true, r) := by
      rw [← hk]; rfl
    exact (mForS_eq hit).trans w1
  refine ⟨some (.own (.lst ((u.prm.map (cand g u k i)).map D.int))), c11, c12, ?_⟩
  refine (mSeq_nx s1).trans ((mSeq_nx s2).trans ?_)
  have hput := put_enc (v := D.int) (f := tbF g u (k + 1) P) ok.gkeq (by rw [tbF_keys]; exact hP) hi (Tb g u (k + 1) i)
  have hpa : putA (tbF g u (k + 1) P) i (Tb g u (k + 1) i) = tbF g u (k + 1) (P ++ [i]) := by
    have : ¬ ((tbF g u (k + 1) P).any fun q => decide (q.1 = i)) = true := by
      intro h
      obtain ⟨q, hq, hqi⟩ := List.any_eq_true.mp h
      have hqi := of_decide_eq_true hqi
      exact hn (by rw [← hqi, ← tbF_keys (g := g) (u := u) (k + 1) P]; exact List.mem_map_of_mem hq)
    unfold putA
    rw [if_neg this]
    unfold tbF
    rw [List.map_append]; rfl
  rw [hpa] at hput
  have hkey := ok.gkey i hi
  have hm := Tb_succ ok nu k i
  have hl2 : (encA g.gs D.int (tbF g u (k + 1) P)).length < 1000000 := by unfold encA tbF; rw [List.length_map, List.length_map]; exact hl
  have hg : gMax (.lst ((u.prm.map (cand g u k i)).map D.int)) = some ⟨.int (Tb g u (k + 1) i), .dat⟩ := by
    rw [gMax_lst, intsD_map, Option.bind_some, hm]; rfl
  simp only [mPutT, mCall, mCons, mNil, mVar, slT, List.getElem?_cons_succ, List.getElem?_cons_zero, Option.bind_some, Option.map_some, List.map_cons, List.map_nil, f1, hg, noBorK, hkey, ownAt, hput, lim, hl2, List.set_cons_succ, List.set_cons_zero, if_true]
  simp [hkey, hl2]
/-- one turn's table -/
theorem tb_turn {F1 F2 : MF} (ok : GpOk g) (nu : NuOk g u) (h1 : ∀ i j r, i < g.B → j < g.S → F1 [g.gs i, g.st j] r = some (⟨g.gs (g.nx i j), .dat⟩, r)) (h2 : ∀ i r, i < g.B → F2 [g.gs i, u.lk] r = some (⟨.int (u.W i), .dat⟩, r))
    {K k : Nat} {a4 a5 a7 a8 a9 a10 a11 a12 : Option SV} {I : List D} {r : Rw} (ha4 : isD a4 (.dT (tabD g u))) (ha5 : isD a5 (.lst ((List.range g.B).map g.gs))) (hI : I.length < 1000) :
    ∃ c4 c5 c8 c9 c10 c11 c12, (mSeq (mAsg 8 mDnilT) (mSeq (mFrz 5 (mForS (.one 9) (mIt (mVar 5)) (tbOne F1 F2))) (mFrz 8 (mApp 6 (mVar 8))))) ⟨slT g u K a4 a5 (I ++ [tbD g u k]) a7 [a8, a9, a10, a11, a12], r⟩ = some (.nx (slT g u K c4 c5 (I ++ [tbD g u k] ++ [tbD g u (k + 1)]) a7 [c8, c9, c10, c11, c12]), r) ∧ isD c4 (.dT (tabD g u)) ∧ isD c5 (.lst ((List.range g.B).map g.gs)) := by
  have s1 : mAsg 8 mDnilT ⟨slT g u K a4 a5 (I ++ [tbD g u k]) a7 [a8, a9, a10, a11, a12], r⟩ = some (.nx (slT g u K a4 a5 (I ++ [tbD g u k]) a7 [some (.own (.dT [])), a9, a10, a11, a12]), r) := by
    simp [mAsg, mDnilT, kept, slT]
  obtain ⟨sl', w1, c4, c9, c10, c11, c12, rfl, hc4⟩ := mFor_rel (t := .one 9) (body := tbOne F1 F2) (r := r) g.gs
    (fun Q sl => ∃ c4 c9 c10 c11 c12, sl = slT g u K c4 (some (.dat (.lst ((List.range g.B).map g.gs)))) (I ++ [tbD g u k]) a7 [some (.own (.dT (encA g.gs D.int (tbF g u (k + 1) Q)))), c9, c10, c11, c12] ∧ isD c4 (.dT (tabD g u)))
    (List.range g.B) (List.range g.B) [] (slT g u K a4 (some (.dat (.lst ((List.range g.B).map g.gs)))) (I ++ [tbD g u k]) a7 [some (.own (.dT [])), a9, a10, a11, a12]) rfl
    (fun Q i rest sl hp ⟨d4, d9, d10, d11, d12, e, hd4⟩ => by
      subst e
      have hi : i < g.B := List.mem_range.mp (by rw [← hp]; simp)
      have hnd : (Q ++ i :: rest).Nodup := by rw [hp]; exact List.nodup_range
      have hn : i ∉ Q := by
        rw [List.nodup_append] at hnd
        intro h
        exact hnd.2.2 i h i (by simp) rfl
      have hQ : ∀ m ∈ Q, m < g.B := fun m hm => List.mem_range.mp (by rw [← hp]; simp [hm])
      have hl : Q.length < 1000000 := by
        have : Q.length ≤ (List.range g.B).length := by rw [← hp]; simp
        rw [List.length_range] at this
        have := ok.b5
        omega
      obtain ⟨c10, c11, c12, w⟩ := tb_one (K := K) (k := k) (a5 := some (.dat (.lst ((List.range g.B).map g.gs)))) (a7 := a7) (a10 := d10) (a11 := d11) (a12 := d12) (I := I) (P := Q) (r := r) ok nu h1 h2 hd4 hi hQ hn hl
      exact ⟨_, _, rfl, w, some (.dat (.dT (tabD g u))), some (.dat (g.gs i)), c10, c11, c12, rfl, .inl rfl⟩)
    ⟨a4, a9, a10, a11, a12, rfl, ha4⟩
  have s2 : (mFrz 5 (mForS (.one 9) (mIt (mVar 5)) (tbOne F1 F2))) ⟨slT g u K a4 a5 (I ++ [tbD g u k]) a7 [some (.own (.dT [])), a9, a10, a11, a12], r⟩ = some (.nx (slT g u K c4 (some (.dat (.lst ((List.range g.B).map g.gs)))) (I ++ [tbD g u k]) a7 [some (.own (tbD g u (k + 1))), c9, c10, c11, c12]), r) := by
    unfold mFrz
    simp only
    have e : frz 5 (slT g u K a4 a5 (I ++ [tbD g u k]) a7 [some (.own (.dT [])), a9, a10, a11, a12]) = slT g u K a4 (some (.dat (.lst ((List.range g.B).map g.gs)))) (I ++ [tbD g u k]) a7 [some (.own (.dT [])), a9, a10, a11, a12] := by
      rcases ha5 with rfl | rfl <;> rfl
    rw [e]
    exact (mForS_eq (s := ⟨slT g u K a4 (some (.dat (.lst ((List.range g.B).map g.gs)))) (I ++ [tbD g u k]) a7 [some (.own (.dT [])), a9, a10, a11, a12], r⟩) (L := (List.range g.B).map g.gs) rfl).trans w1
  have hl : (I ++ [tbD g u k]).length < 1000000 := by rw [List.length_append, List.length_singleton]; omega
  have hl2 : I.length + 1 < 1000000 := by omega
  have s3 : (mFrz 8 (mApp 6 (mVar 8))) ⟨slT g u K c4 (some (.dat (.lst ((List.range g.B).map g.gs)))) (I ++ [tbD g u k]) a7 [some (.own (tbD g u (k + 1))), c9, c10, c11, c12], r⟩ = some (.nx (slT g u K c4 (some (.dat (.lst ((List.range g.B).map g.gs)))) (I ++ [tbD g u k] ++ [tbD g u (k + 1)]) a7 [some (.dat (tbD g u (k + 1))), c9, c10, c11, c12]), r) := by
    simp [mFrz, frz, mApp, mVar, slT, noBorK, ownAt, lim, hl2]
  refine ⟨c4, _, _, c9, c10, c11, c12, (mSeq_nx s1).trans ((mSeq_nx s2).trans s3), hc4, .inl rfl⟩
theorem mDcGo_enc {t : Tg} {mk mv : ME} {sl : Sl} {r : Rw} {key : Nat → D} {v : Nat → D} {b : Nat} (hk : ∀ i i', i < b → i' < b → keq (key i) (key i') = decide (i = i')) (hko : ∀ i, i < b → keyOk (key i) = true) (hs : ∀ i, i < b → ∃ sl1 k1 k2, k2 ≠ Kd.bor ∧ bindT t sl (key i) = some sl1 ∧ mk ⟨sl1, r⟩ = some (⟨key i, k1⟩, r) ∧ mv ⟨sl1, r⟩ = some (⟨v i, k2⟩, r)) :
    ∀ (L : List Nat) (acc : List (Nat × D)), (acc.map (·.1) ++ L).Nodup → (∀ i ∈ acc.map (·.1), i < b) → (∀ i ∈ L, i < b) → acc.length + L.length ≤ 1000000 → mDcGo t mk mv sl (L.map key) r (encA key id acc) = some (encA key id (acc ++ L.map fun i => (i, v i)), r)
  | [], acc, _, _, _, _ => by simp [mDcGo]
  | i :: L, acc, hn, ha, hL, hl => by
    have hi := hL i List.mem_cons_self
    obtain ⟨sl1, k1, k2, h0, h1, h2, h3⟩ := hs i hi
    have hput := put_enc (v := id) hk ha hi (v i)
    have hni : i ∉ acc.map (·.1) := by
      rw [List.nodup_append] at hn
      intro h
      exact hn.2.2 i h i (by simp) rfl
    have hpa : putA acc i (v i) = acc ++ [(i, v i)] := by
      have : ¬ (acc.any fun q => decide (q.1 = i)) = true := by
        intro h
        obtain ⟨q, hq, hqi⟩ := List.any_eq_true.mp h
        exact hni (by rw [← of_decide_eq_true hqi]; exact List.mem_map_of_mem hq)
      unfold putA
      rw [if_neg this]
    rw [hpa] at hput
    have hput : putT (encA key id acc) (key i) (v i) = encA key id (acc ++ [(i, v i)]) := hput
    have hlen : (encA key id acc).length < 1000000 := by unfold encA; rw [List.length_map]; simp at hl; omega
    have ih := mDcGo_enc (t := t) (mk := mk) (mv := mv) (sl := sl) (r := r) hk hko hs L (acc ++ [(i, v i)]) (by simpa using hn) (fun k hk => by
      rw [List.map_append, List.mem_append] at hk
      rcases hk with hk | hk
      · exact ha k hk
      · simp at hk; subst hk; exact hi) (fun k hk => hL k (List.mem_cons_of_mem _ hk)) (by simp at hl ⊢; omega)
    have hb : noBorK ⟨v i, k2⟩ = true := by simp [noBorK, h0]
    have e : mDcGo t mk mv sl ((i :: L).map key) r (encA key id acc) = mDcGo t mk mv sl (L.map key) r (encA key id (acc ++ [(i, v i)])) := by
      simp [mDcGo, h1, h2, h3, hko i hi, hb, hlen, lim, hput]
    rw [e, ih]
    simp
theorem tables_start {F1 F2 : MF} {rest : MSt} (ok : GpOk g) {K : Nat} {r : Rw} (h1 : F1 [.int g.n, u.ps] r = some (⟨.dT (tabD g u), .new⟩, r)) (h2 : F2 [.int g.n] r = some (⟨.lst ((List.range g.B).map g.gs), .new⟩, r)) :
    (mSeq (mPar [4, 5] (mCons (mFn 2 F1 (mCons (mVar 0) (mCons (mVar 2) mNil))) (mCons (mFn 1 F2 (mCons (mVar 0) mNil)) mNil)))
 (mSeq (mAsg 6 (mLst (mCons (mDc (.one 9) [9] (mIt (mVar 5)) (mVar 9) (mCst (.int 0))) mNil))) rest)) ⟨[some (.dat (.int g.n)), some (.dat u.lk), some (.dat u.ps), some (.dat (.int K)), none, none, none, none, none, none, none, none, none], r⟩
      = rest ⟨slT g u K (some (.own (.dT (tabD g u)))) (some (.own (.lst ((List.range g.B).map g.gs)))) [tbD g u 0] none [none, none, none, none, none], r⟩ := by
  have s1 : mPar [4, 5] (mCons (mFn 2 F1 (mCons (mVar 0) (mCons (mVar 2) mNil))) (mCons (mFn 1 F2 (mCons (mVar 0) mNil)) mNil)) ⟨[some (.dat (.int g.n)), some (.dat u.lk), some (.dat u.ps), some (.dat (.int K)), none, none, none, none, none, none, none, none, none], r⟩ = some (.nx [some (.dat (.int g.n)), some (.dat u.lk), some (.dat u.ps), some (.dat (.int K)), some (.own (.dT (tabD g u))), some (.own (.lst ((List.range g.B).map g.gs))), none, none, none, none, none, none, none], r) := by
    simp [mSeq, mAsg, mPar, mUnp, mCons, mNil, mStar, mFn, mVar, mCst, mTup, mLst, mBin, mIfS, mIf, mTb, mTr, mTNot, mTOr, mTAnd, mAnd, mOr, mNot, mIs, mCall, f1, mNext, mRet, mRetVar, mDrop, evI, evB, datE, kept, setE, noBor_nil, noBor_cons, noBor_new, noBor_map, mapd_map, noBorK, fAdd, fSub, fMul, fMulI, fDiv, fMod, fInt, fCatL, fCatT, fLt, fLtI, fLtT, fLe, fGt, fGe, fIsN, isNon, fIsNB, ownAt, mApp, mPutT, mPutI, mSetI, frz, mFrz, truD, intsD, isTupD, isIntD, isBoolD, isStrD, isListD, isTLD, itemsD, gLen, gInt, gTuple, mNeg, mChain, mBrk, lim, mSl, mOSome, mONone, bindT, mNever, mTb, h1, h2]
  have hd : mDcGo (.one 9) (mVar 9) (mCst (.int 0)) [some (.dat (.int g.n)), some (.dat u.lk), some (.dat u.ps), some (.dat (.int K)), some (.own (.dT (tabD g u))), some (.own (.lst ((List.range g.B).map g.gs))), none, none, none, none, none, none, none] ((List.range g.B).map g.gs) r [] = some (encA g.gs D.int (tbF g u 0 (List.range g.B)), r) := by
    have := mDcGo_enc (t := .one 9) (mk := mVar 9) (mv := mCst (.int 0)) (sl := [some (.dat (.int g.n)), some (.dat u.lk), some (.dat u.ps), some (.dat (.int K)), some (.own (.dT (tabD g u))), some (.own (.lst ((List.range g.B).map g.gs))), none, none, none, none, none, none, none]) (r := r) (v := fun _ => .int 0) ok.gkeq ok.gkey (fun i _ => ⟨_, .dat, .dat, by decide, rfl, rfl, rfl⟩) (List.range g.B) [] (by simpa using List.nodup_range) (fun i hi => by cases hi) (fun i hi => List.mem_range.mp hi) (by simp; have := ok.b5; omega)
    have e : encA g.gs id ([] ++ (List.range g.B).map fun i => (i, D.int 0)) = encA g.gs D.int (tbF g u 0 (List.range g.B)) := by
      unfold encA tbF
      rw [List.nil_append, List.map_map, List.map_map]; rfl
    rw [e] at this
    exact this
  have s2 : mAsg 6 (mLst (mCons (mDc (.one 9) [9] (mIt (mVar 5)) (mVar 9) (mCst (.int 0))) mNil)) ⟨[some (.dat (.int g.n)), some (.dat u.lk), some (.dat u.ps), some (.dat (.int K)), some (.own (.dT (tabD g u))), some (.own (.lst ((List.range g.B).map g.gs))), none, none, none, none, none, none, none], r⟩ = some (.nx (slT g u K (some (.own (.dT (tabD g u)))) (some (.own (.lst ((List.range g.B).map g.gs)))) [tbD g u 0] none [none, none, none, none, none]), r) := by
    have hit : mIt (mVar 5) ⟨[some (.dat (.int g.n)), some (.dat u.lk), some (.dat u.ps), some (.dat (.int K)), some (.own (.dT (tabD g u))), some (.own (.lst ((List.range g.B).map g.gs))), none, none, none, none, none, none, none], r⟩ = some ((List.range g.B).map g.gs, false, r) := rfl
    have hw : wipeS [some (.dat (.int g.n)), some (.dat u.lk), some (.dat u.ps), some (.dat (.int K)), some (.own (.dT (tabD g u))), some (.own (.lst ((List.range g.B).map g.gs))), none, none, none, none, none, none, none] [9] = [some (.dat (.int g.n)), some (.dat u.lk), some (.dat u.ps), some (.dat (.int K)), some (.own (.dT (tabD g u))), some (.own (.lst ((List.range g.B).map g.gs))), none, none, none, none, none, none, none] := rfl
    simp [mAsg, mLst, mCons, mNil, mDc, hit, hw, hd, noBor_nil, noBor_new, lim, kept, slT, tbD]
  exact (mSeq_nx s1).trans (mSeq_nx s2)
theorem tables_eq : m_tables = (mSeq (mPar [4, 5] (mCons (mFn 2 f_price_table (mCons (mVar 0) (mCons (mVar 2) mNil))) (mCons (mFn 1 f_all_groupings (mCons (mVar 0) mNil)) mNil)))
 (mSeq (mAsg 6 (mLst (mCons (mDc (.one 9) [9] (mIt (mVar 5)) (mVar 9) (mCst (.int 0))) mNil)))
 (mSeq (mForS (.one 7) (mRng1 (mCons (mVar 3) mNil))
 (mSeq (mAsg 8 mDnilT) (mSeq (mFrz 5 (mForS (.one 9) (mIt (mVar 5)) (tbOne f_stepped f_worth_of))) (mFrz 8 (mApp 6 (mVar 8))))))
 (mRetVar 6)))) := rfl
def tbsD (g : Gp) (u : Nu) (K : Nat) : List D := (List.range (K + 1)).map (tbD g u)
theorem tbsD_succ (K : Nat) : tbsD g u (K + 1) = tbsD g u K ++ [tbD g u (K + 1)] := by unfold tbsD; rw [List.range_succ, List.map_append]; rfl
theorem tbsD_last (K : Nat) : ∃ I, tbsD g u K = I ++ [tbD g u K] ∧ I.length = K := by
  unfold tbsD
  rw [List.range_succ, List.map_append]
  exact ⟨(List.range K).map (tbD g u), rfl, by simp⟩
theorem smallI_ok {K : Nat} (h : K ≤ 1000000) : smallI (K : Int) = true := by
  have e : (2 : Int) ^ 62 = 4611686018427387904 := by decide +kernel
  unfold smallI
  rw [e]
  exact decide_eq_true ⟨by omega, by omega⟩
theorem mRng1_eq {m : MA} {s : MS} {j : Int} {r : Rw} (h : m s = some ([⟨.int j, .dat⟩], r)) : mRng1 m s = if smallI j = true then some (rngD 0 j.toNat, true, r) else none := by
  unfold mRng1
  rw [h]; rfl
theorem mRng1_var {sl : Sl} {i K : Nat} {r : Rw} (h : sl[i]? = some (some (.dat (.int K)))) (hK : K ≤ 1000000) : mRng1 (mCons (mVar i) mNil) ⟨sl, r⟩ = some ((List.range K).map (fun (i : Nat) => D.int (0 + (i : Nat))), true, r) := by
  have hm : mCons (mVar i) mNil ⟨sl, r⟩ = some ([⟨.int K, .dat⟩], r) := by simp [mCons, mNil, mVar, h]
  exact (mRng1_eq hm).trans ((if_pos (smallI_ok hK)).trans (by rw [Int.toNat_natCast]; rfl))
theorem tables_loop {F1 F2 : MF} (ok : GpOk g) (nu : NuOk g u) (q1 : ∀ i j r, i < g.B → j < g.S → F1 [g.gs i, g.st j] r = some (⟨g.gs (g.nx i j), .dat⟩, r)) (q2 : ∀ i r, i < g.B → F2 [g.gs i, u.lk] r = some (⟨.int (u.W i), .dat⟩, r)) {K : Nat} (hK : K ≤ 8) (r : Rw) :
    (mSeq (mForS (.one 7) (mRng1 (mCons (mVar 3) mNil))
 (mSeq (mAsg 8 mDnilT) (mSeq (mFrz 5 (mForS (.one 9) (mIt (mVar 5)) (tbOne F1 F2))) (mFrz 8 (mApp 6 (mVar 8))))))
 (mRetVar 6)) ⟨slT g u K (some (.own (.dT (tabD g u)))) (some (.own (.lst ((List.range g.B).map g.gs)))) [tbD g u 0] none [none, none, none, none, none], r⟩ = some (.rt ⟨.lst (tbsD g u K), .new⟩, r) := by
  obtain ⟨sl', w1, c4, c5, c7, c8, c9, c10, c11, c12, rfl, _, _⟩ := mFor_rel (t := .one 7) (body := (mSeq (mAsg 8 mDnilT) (mSeq (mFrz 5 (mForS (.one 9) (mIt (mVar 5)) (tbOne F1 F2))) (mFrz 8 (mApp 6 (mVar 8)))))) (r := r) (fun (i : Nat) => D.int (0 + (i : Nat)))
    (fun Q sl => ∃ c4 c5 c7 c8 c9 c10 c11 c12, sl = slT g u K c4 c5 (tbsD g u Q.length) c7 [c8, c9, c10, c11, c12] ∧ isD c4 (.dT (tabD g u)) ∧ isD c5 (.lst ((List.range g.B).map g.gs)))
    (List.range K) (List.range K) [] (slT g u K (some (.own (.dT (tabD g u)))) (some (.own (.lst ((List.range g.B).map g.gs)))) [tbD g u 0] none [none, none, none, none, none]) rfl
    (fun Q i rest sl hp ⟨c4, c5, c7, c8, c9, c10, c11, c12, e, h4, h5⟩ => by
      subst e
      obtain ⟨I, hI, hl⟩ := tbsD_last (g := g) (u := u) Q.length
      have hQ : Q.length ≤ K := by
        have : Q.length ≤ (List.range K).length := by rw [← hp]; simp
        simpa using this
      obtain ⟨d4, d5, d8, d9, d10, d11, d12, w, y1, y2⟩ := tb_turn (F1 := F1) (F2 := F2) (K := K) (k := Q.length) (a7 := some (.dat (.int (0 + (i : Nat))))) (a8 := c8) (a9 := c9) (a10 := c10) (a11 := c11) (a12 := c12) (I := I) (r := r) ok nu q1 q2 h4 h5 (by omega)
      rw [hI]
      refine ⟨_, _, rfl, w, d4, d5, some (.dat (.int (0 + (i : Nat)))), d8, d9, d10, d11, d12, ?_, y1, y2⟩
      rw [List.length_append, List.length_singleton, tbsD_succ, hI])
    ⟨_, _, _, _, _, _, _, _, rfl, .inr rfl, .inr rfl⟩
  have hit := mRng1_var (sl := slT g u K (some (.own (.dT (tabD g u)))) (some (.own (.lst ((List.range g.B).map g.gs)))) [tbD g u 0] none [none, none, none, none, none]) (i := 3) (K := K) (r := r) rfl (by omega)
  refine (mSeq_nx ((mForS_eq hit).trans w1)).trans ?_
  rw [List.length_range]
  exact ret_own rfl
theorem tables_ok (ok : GpOk g) (nu : NuOk g u) {K : Nat} (hK : K ≤ 8) (r : Rw) : f_tables [.int g.n, u.lk, u.ps, .int K] r = some (⟨.lst (tbsD g u K), .new⟩, r) := by
  refine mBody_rt (sl := [some (.dat (.int g.n)), some (.dat u.lk), some (.dat u.ps), some (.dat (.int K)), none, none, none, none, none, none, none, none, none]) rfl ?_
  rw [tables_eq]
  exact (tables_start ok (nu.ptab r) (ok.groups r)).trans (tables_loop ok nu ok.step nu.worth hK r)
end
end GD
/-! Kl -/
set_option maxHeartbeats 4000000
/-! Kl: best_stay. -/
namespace GD
open PySem L2
theorem mFor_break {α : Type} {t : Tg} {body : MSt} (den : α → D) (R : Sl → Prop) (c : α → Bool) (Q : α → Sl → Prop) {r : Rw} : ∀ (L : List α) (sl : Sl), (∃ j ∈ L, c j = true) → R sl →
    (∀ a sl, a ∈ L → R sl → ∃ sl1, bindT t sl (den a) = some sl1 ∧ (c a = false → ∃ sl2, body ⟨sl1, r⟩ = some (.nx sl2, r) ∧ R sl2) ∧ (c a = true → ∃ sl2, body ⟨sl1, r⟩ = some (.bk sl2, r) ∧ Q a sl2)) →
    ∃ a sl', a ∈ L ∧ c a = true ∧ mFor t body (L.map den) sl r = some (.nx sl', r) ∧ Q a sl'
  | [], sl, h, _, _ => by obtain ⟨j, hj, _⟩ := h; cases hj
  | a :: L, sl, h, hR, hs => by
    obtain ⟨sl1, h1, h2, h3⟩ := hs a sl List.mem_cons_self hR
    cases hc : c a with
    | true =>
      obtain ⟨sl2, h4, h5⟩ := h3 hc
      refine ⟨a, sl2, List.mem_cons_self, hc, ?_, h5⟩
      rw [List.map_cons, mFor, h1, Option.bind_some, h4, Option.bind_some]
    | false =>
      obtain ⟨sl2, h4, h5⟩ := h2 hc
      have hex : ∃ j ∈ L, c j = true := by
        obtain ⟨j, hj, hcj⟩ := h
        rcases List.mem_cons.mp hj with rfl | hj
        · rw [hc] at hcj; cases hcj
        · exact ⟨j, hj, hcj⟩
      obtain ⟨b, sl', h6, h7, h8, h9⟩ := mFor_break den R c Q L sl2 hex h5 fun a sl ha => hs a sl (List.mem_cons_of_mem _ ha)
      refine ⟨b, sl', List.mem_cons_of_mem _ h6, h7, ?_, h9⟩
      rw [List.map_cons, mFor, h1, Option.bind_some, h4, Option.bind_some]
      exact h8
section
variable {g : Gp} {u : Nu} {s : Nat}
def tot (g : Gp) (u : Nu) : Nat → List Nat → Int
  | _, [] => 0
  | i, j :: w => u.W (g.nx i j) - u.pr j + tot g u (g.nx i j) w
theorem Tb_max (ok : GpOk g) (nu : NuOk g u) (k i : Nat) : (∃ j, j < g.S ∧ cand g u k i j = Tb g u (k + 1) i) ∧ ∀ j, j < g.S → cand g u k i j ≤ Tb g u (k + 1) i := by
  have h := Tb_succ ok nu k i
  obtain ⟨h1, h2⟩ := maxI_spec.maxI_mem h
  obtain ⟨j, hj, e⟩ := List.mem_map.mp h1
  exact ⟨⟨j, (nu.prm j).mp hj, e⟩, fun j hj => h2 _ (List.mem_map_of_mem ((nu.prm j).mpr hj))⟩
theorem tot_le (ok : GpOk g) (nu : NuOk g u) : ∀ {w : List Nat} {i : Nat}, valid g w → tot g u i w ≤ Tb g u w.length i
  | [], i, _ => Int.le_refl _
  | j :: w, i, hv => by
    have h1 := tot_le ok nu (w := w) (i := g.nx i j) fun k hk => hv k (List.mem_cons_of_mem _ hk)
    have h2 := (Tb_max ok nu w.length i).2 j (hv j List.mem_cons_self)
    unfold cand at h2
    simp only [tot, List.length_cons]
    omega
theorem atI_nat {α : Type} {l : List α} {k : Nat} (h : k < l.length) : L2.atI l (k : Int) = l[k]? := by
  unfold L2.atI L2.ixN
  rw [if_pos (by omega), if_pos (by omega), Option.bind_some, Int.toNat_natCast]
theorem fIx_tbs {K k : Nat} (h : k ≤ K) : fIx (.lst (tbsD g u K)) (.int (k : Int)) = some ⟨tbD g u k, .dat⟩ := by
  have hl : (tbsD g u K).length = K + 1 := by unfold tbsD; simp
  rw [fIx_lst, atI_nat (by omega)]
  unfold tbsD
  rw [List.getElem?_map, List.getElem?_range (by omega)]; rfl
abbrev bsStep (F1 F2 : MF) : MSt := (mSeq (mAsg 11 (mFn 2 F1 (mCons (mVar 8) (mCons (mVar 10) mNil))))
 (mIfS (mTb (mBin fEq (mBin fAdd (mBin fSub (mFn 2 F2 (mCons (mVar 11) (mCons (mVar 1) mNil))) (mBin fIx (mVar 6) (mVar 10))) (mBin fIx (mBin fIx (mVar 5) (mBin fSub (mVar 9) (mCst (.int 1)))) (mVar 11))) (mBin fIx (mBin fIx (mVar 5) (mVar 9)) (mVar 8))))
 mBrk
 mNext))
abbrev bsTurn (F1 F2 F3 : MF) : MSt := (mSeq (mForS (.one 10) (mIt (mFn 1 F3 (mCons (mVar 4) mNil))) (bsStep F1 F2))
 (mSeq (mApp 7 (mVar 10))
 (mAsg 8 (mVar 11))))
def slS (g : Gp) (u : Nu) (s K : Nat) (row : List Nat) (i : Nat) (t : Sl) : Sl := some (.dat (g.gs s)) :: some (.dat u.lk) :: some (.dat u.ps) :: some (.dat (.int K)) :: some (.dat (.int g.n)) :: some (.own (.lst (tbsD g u K))) :: some (.own (.dT (tabD g u))) :: some (.own (.lst (row.map g.st))) :: some (.dat (g.gs i)) :: t
theorem bs_step {F1 F2 : MF} (ok : GpOk g) (nu : NuOk g u) (h1 : ∀ i j r, i < g.B → j < g.S → F1 [g.gs i, g.st j] r = some (⟨g.gs (g.nx i j), .dat⟩, r)) (h2 : ∀ i r, i < g.B → F2 [g.gs i, u.lk] r = some (⟨.int (u.W i), .dat⟩, r))
    {K k i j : Nat} {row : List Nat} {a11 : Option SV} {r : Rw} {c : Bool} (hk : k + 1 ≤ K) (hi : i < g.B) (hj : j < g.S) (hc : c = decide (cand g u k i j = Tb g u (k + 1) i)) :
    bsStep F1 F2 ⟨slS g u s K row i [some (.dat (.int ((k + 1 : Nat) : Int))), some (.dat (g.st j)), a11], r⟩ = some ((if c = true then Fl.bk else Fl.nx) (slS g u s K row i [some (.dat (.int ((k + 1 : Nat) : Int))), some (.dat (g.st j)), some (.dat (g.gs (g.nx i j)))]), r) := by
  have ht := ok.nxlt i j hi hj
  have e1 := h1 i j r hi hj
  have e2 := h2 _ r ht
  have e3 := fIx_tab ok nu hj
  have e4 := fIx_tbs (g := g) (u := u) (K := K) (k := k) (by omega)
  have e5 := fIx_tbs (g := g) (u := u) (K := K) (k := k + 1) hk
  have e6 := fIx_tbD (u := u) ok (k := k) ht
  have e7 := fIx_tbD (u := u) ok (k := k + 1) hi
  have e8 : ((k + 1 : Nat) : Int) - 1 = (k : Int) := by omega
  have s1 : mAsg 11 (mFn 2 F1 (mCons (mVar 8) (mCons (mVar 10) mNil))) ⟨slS g u s K row i [some (.dat (.int ((k + 1 : Nat) : Int))), some (.dat (g.st j)), a11], r⟩ = some (.nx (slS g u s K row i [some (.dat (.int ((k + 1 : Nat) : Int))), some (.dat (g.st j)), some (.dat (g.gs (g.nx i j)))]), r) := by
    simp [mAsg, mFn, mCons, mNil, mVar, slS, noBor_nil, noBor_cons, noBorK, kept, e1]
  have t1 : mTb (mBin fEq (mBin fAdd (mBin fSub (mFn 2 F2 (mCons (mVar 11) (mCons (mVar 1) mNil))) (mBin fIx (mVar 6) (mVar 10))) (mBin fIx (mBin fIx (mVar 5) (mBin fSub (mVar 9) (mCst (.int 1)))) (mVar 11))) (mBin fIx (mBin fIx (mVar 5) (mVar 9)) (mVar 8))) ⟨slS g u s K row i [some (.dat (.int ((k + 1 : Nat) : Int))), some (.dat (g.st j)), some (.dat (g.gs (g.nx i j)))], r⟩ = some (c, r) := by
    have m6 : mBin fIx (mBin fIx (mVar 5) (mVar 9)) (mVar 8) ⟨slS g u s K row i [some (.dat (.int ((k + 1 : Nat) : Int))), some (.dat (g.st j)), some (.dat (g.gs (g.nx i j)))], r⟩ = some (⟨.int (Tb g u (k + 1) i), .dat⟩, r) := by
      simp only [mBin, mVar, slS, List.getElem?_cons_succ, List.getElem?_cons_zero, Option.bind_some, e5, Option.map_some, e7]
    have m9 : mBin fSub (mVar 9) (mCst (.int 1)) ⟨slS g u s K row i [some (.dat (.int ((k + 1 : Nat) : Int))), some (.dat (g.st j)), some (.dat (g.gs (g.nx i j)))], r⟩ = some (⟨.int (k : Int), .dat⟩, r) := by
      simp only [mBin, mVar, mCst, slS, List.getElem?_cons_succ, List.getElem?_cons_zero, Option.bind_some, fSub, fInt, evI, e8, Option.map_some]
    have m5 : mBin fIx (mBin fIx (mVar 5) (mBin fSub (mVar 9) (mCst (.int 1)))) (mVar 11) ⟨slS g u s K row i [some (.dat (.int ((k + 1 : Nat) : Int))), some (.dat (g.st j)), some (.dat (g.gs (g.nx i j)))], r⟩ = some (⟨.int (Tb g u k (g.nx i j)), .dat⟩, r) := by
      have v5 : mVar 5 ⟨slS g u s K row i [some (.dat (.int ((k + 1 : Nat) : Int))), some (.dat (g.st j)), some (.dat (g.gs (g.nx i j)))], r⟩ = some (⟨.lst (tbsD g u K), .bor⟩, r) := rfl
      have v11 : mVar 11 ⟨slS g u s K row i [some (.dat (.int ((k + 1 : Nat) : Int))), some (.dat (g.st j)), some (.dat (g.gs (g.nx i j)))], r⟩ = some (⟨g.gs (g.nx i j), .dat⟩, r) := rfl
      have hb : mBin fIx (mVar 5) (mBin fSub (mVar 9) (mCst (.int 1))) ⟨slS g u s K row i [some (.dat (.int ((k + 1 : Nat) : Int))), some (.dat (g.st j)), some (.dat (g.gs (g.nx i j)))], r⟩ = some (⟨tbD g u k, .dat⟩, r) := by
        unfold mBin at m9 ⊢
        rw [v5, Option.bind_some, m9, Option.bind_some, e4]; rfl
      unfold mBin at hb ⊢
      rw [hb, Option.bind_some, v11, Option.bind_some, e6]; rfl
    have mw : mBin fSub (mFn 2 F2 (mCons (mVar 11) (mCons (mVar 1) mNil))) (mBin fIx (mVar 6) (mVar 10)) ⟨slS g u s K row i [some (.dat (.int ((k + 1 : Nat) : Int))), some (.dat (g.st j)), some (.dat (g.gs (g.nx i j)))], r⟩ = some (⟨.int (u.W (g.nx i j) - u.pr j), .dat⟩, r) := by
      simp [mBin, mFn, mCons, mNil, mVar, slS, noBor_nil, noBor_cons, noBorK, e2, e3, fSub, fInt, evI]
    have ma : mBin fAdd (mBin fSub (mFn 2 F2 (mCons (mVar 11) (mCons (mVar 1) mNil))) (mBin fIx (mVar 6) (mVar 10))) (mBin fIx (mBin fIx (mVar 5) (mBin fSub (mVar 9) (mCst (.int 1)))) (mVar 11)) ⟨slS g u s K row i [some (.dat (.int ((k + 1 : Nat) : Int))), some (.dat (g.st j)), some (.dat (g.gs (g.nx i j)))], r⟩ = some (⟨.int (cand g u k i j), .dat⟩, r) := by
      have e : ∀ (A B : ME), mBin fAdd A B = fun s => (A s).bind fun p => (B ⟨s.sl, p.2⟩).bind fun q => (fAdd p.1.d q.1.d).map fun e => (e, q.2) := fun _ _ => rfl
      rw [e]
      simp only
      rw [mw, Option.bind_some]
      simp only
      rw [m5, Option.bind_some]; rfl
    have e : ∀ (A B : ME), mTb (mBin fEq A B) = fun s => ((A s).bind fun p => (B ⟨s.sl, p.2⟩).bind fun q => (fEq p.1.d q.1.d).map fun e => (e, q.2)).bind fun p => match p.1.d with | .bl b => some (b, p.2) | _ => none := fun _ _ => rfl
    rw [e]
    simp only
    rw [ma, Option.bind_some]
    simp only
    rw [m6, Option.bind_some]
    simp only
    rw [fEq_int, ← hc]; rfl
  refine (mSeq_nx s1).trans ?_
  unfold mIfS
  simp only
  rw [t1, Option.bind_some]
  cases c <;> rfl
theorem bs_turn {F1 F2 F3 : MF} (ok : GpOk g) (nu : NuOk g u) (h1 : ∀ i j r, i < g.B → j < g.S → F1 [g.gs i, g.st j] r = some (⟨g.gs (g.nx i j), .dat⟩, r)) (h2 : ∀ i r, i < g.B → F2 [g.gs i, u.lk] r = some (⟨.int (u.W i), .dat⟩, r)) (h3 : ∀ r, F3 [.int g.n] r = some (⟨.lst ((List.range g.S).map g.st), .new⟩, r))
    {K k i : Nat} {row : List Nat} {a10 a11 : Option SV} {r : Rw} (hk : k + 1 ≤ K) (hi : i < g.B) (hl : row.length < 1000) :
    ∃ j, j < g.S ∧ cand g u k i j = Tb g u (k + 1) i ∧ ∃ c10 c11, bsTurn F1 F2 F3 ⟨slS g u s K row i [some (.dat (.int ((k + 1 : Nat) : Int))), a10, a11], r⟩ = some (.nx (slS g u s K (row ++ [j]) (g.nx i j) [some (.dat (.int ((k + 1 : Nat) : Int))), c10, c11]), r) := by
  obtain ⟨⟨j0, z1, z2⟩, _⟩ := Tb_max ok nu k i
  obtain ⟨j, sl', w1, w2, w3, w4⟩ := mFor_break (t := .one 10) (body := bsStep F1 F2) (r := r) g.st (fun sl => ∃ a10 a11, sl = slS g u s K row i [some (.dat (.int ((k + 1 : Nat) : Int))), a10, a11]) (fun j => decide (cand g u k i j = Tb g u (k + 1) i))
    (fun j sl => sl = slS g u s K row i [some (.dat (.int ((k + 1 : Nat) : Int))), some (.dat (g.st j)), some (.dat (g.gs (g.nx i j)))]) (List.range g.S) (slS g u s K row i [some (.dat (.int ((k + 1 : Nat) : Int))), a10, a11]) ⟨j0, List.mem_range.mpr z1, decide_eq_true z2⟩ ⟨a10, a11, rfl⟩
    (fun j sl hj ⟨b10, b11, e⟩ => by
      subst e
      have st := bs_step (s := s) (K := K) (k := k) (i := i) (j := j) (row := row) (a11 := b11) (r := r) ok nu h1 h2 hk hi (List.mem_range.mp hj) rfl
      refine ⟨_, rfl, fun hc => ?_, fun hc => ?_⟩
      · have hc : decide (cand g u k i j = Tb g u (k + 1) i) = false := hc
        rw [hc] at st
        exact ⟨_, st, _, _, rfl⟩
      · have hc : decide (cand g u k i j = Tb g u (k + 1) i) = true := hc
        rw [hc] at st
        exact ⟨_, st, rfl⟩)
  refine ⟨j, List.mem_range.mp w1, of_decide_eq_true w2, some (.dat (g.st j)), some (.dat (g.gs (g.nx i j))), ?_⟩
  subst w4
  have hit := mIt_call1 (F := F3) (sl := slS g u s K row i [some (.dat (.int ((k + 1 : Nat) : Int))), a10, a11]) (i := 4) (d := .int g.n) (r := r) rfl (h3 r)
  refine (mSeq_nx ((mForS_eq hit).trans w3)).trans ?_
  have hl2 : row.length < 1000000 := by omega
  simp [mSeq, mApp, mAsg, mVar, slS, noBorK, kept, ownAt, lim, hl2]
end
end GD
/-! Km -/
set_option maxHeartbeats 4000000
/-! Km: best_stay, whole. -/
namespace GD
open PySem L2
theorem range_split {K : Nat} {Q rest : List Nat} {i : Nat} (h : Q ++ i :: rest = List.range K) : i = Q.length ∧ i < K := by
  have h1 : (Q ++ i :: rest)[Q.length]? = some i := by simp
  rw [h] at h1
  have hl : Q.length < K := by
    have : (Q ++ i :: rest).length = K := by rw [h, List.length_range]
    simp at this
    omega
  rw [List.getElem?_range hl] at h1
  cases h1
  exact ⟨rfl, hl⟩
theorem mRng3_eq {m : MA} {s : MS} {i j : Int} {r : Rw} (h : m s = some ([⟨.int i, .dat⟩, ⟨.int j, .dat⟩, ⟨.int (-1), .dat⟩], r)) : mRng3 m s = if (smallI i && smallI j) = true then some (rngDown i (i - j).toNat, true, r) else none := by
  unfold mRng3
  rw [h]; rfl
theorem valid_snoc {g : Gp} {w : List Nat} {j : Nat} (h : valid g w) (hj : j < g.S) : valid g (w ++ [j]) := fun k hk => by
  rcases List.mem_append.mp hk with hk | hk
  · exact h k hk
  · simp at hk; subst hk; exact hj
section
variable {g : Gp} {u : Nu} {s : Nat}
theorem tot_snoc {w : List Nat} {j : Nat} : ∀ {i : Nat}, tot g u i (w ++ [j]) = tot g u i w + (u.W (g.nx (wk g i w) j) - u.pr j) := by
  induction w with
  | nil => intro i; simp [tot, wk]
  | cons k w ih =>
    intro i
    have := ih (i := g.nx i k)
    have e : wk g (g.nx i k) w = wk g i (k :: w) := rfl
    rw [e] at this
    simp only [List.cons_append, tot]
    omega
theorem need_stay_sim {F1 F2 : MF} {a lk ps : D} {K : Int} {d : D} {r : Rw} (h1 : F1 [a, lk, ps] r = some (⟨d, .dat⟩, r)) (h2 : F2 [.int K, .int 1, .int 8] r = some (⟨.bl true, .dat⟩, r)) :
    (mSeq (mDrop (mFn 3 F1 (mCons (mVar 0) (mCons (mVar 1) (mCons (mVar 2) mNil)))))
 (mIfS (mTNot (mTb (mFn 3 F2 (mCons (mVar 3) (mCons (mCst (.int 1)) (mCons (mCst (.int 8)) mNil))))))
 mNever
 mNext)) ⟨[some (.dat a), some (.dat lk), some (.dat ps), some (.dat (.int K))], r⟩ = some (.nx [some (.dat a), some (.dat lk), some (.dat ps), some (.dat (.int K))], r) := by
  simp [mSeq, mAsg, mPar, mUnp, mCons, mNil, mStar, mFn, mVar, mCst, mTup, mLst, mBin, mIfS, mIf, mTb, mTr, mTNot, mTOr, mTAnd, mAnd, mOr, mNot, mIs, mCall, f1, mNext, mRet, mRetVar, mDrop, evI, evB, datE, kept, setE, noBor_nil, noBor_cons, noBor_new, noBor_map, mapd_map, noBorK, fAdd, fSub, fMul, fMulI, fDiv, fMod, fInt, fCatL, fCatT, fLt, fLtI, fLtT, fLe, fGt, fGe, fIsN, isNon, fIsNB, ownAt, mApp, mPutT, mPutI, mSetI, frz, mFrz, truD, intsD, isTupD, isIntD, isBoolD, isStrD, isListD, isTLD, itemsD, gLen, gInt, gTuple, mNeg, mChain, mBrk, lim, mSl, mOSome, mONone, bindT, mNever, mTb, h1, h2]
theorem need_stay_ok (ok : GpOk g) (nu : NuOk g u) (hs : s < g.B) {K : Nat} (h1 : 1 ≤ K) (h8 : K ≤ 8) (r : Rw) : f_need_stay [g.gs s, u.lk, u.ps, .int K] r = some (⟨.non, .dat⟩, r) := by
  have hi := isin_ok (K : Int) 1 8 r
  have e : (decide ((1 : Int) ≤ K) && decide ((K : Int) ≤ 8)) = true := by
    rw [Bool.and_eq_true]
    exact ⟨decide_eq_true (by omega), decide_eq_true (by omega)⟩
  rw [e] at hi
  exact mBody_nx (sl := [some (.dat (g.gs s)), some (.dat u.lk), some (.dat u.ps), some (.dat (.int K))]) rfl (need_stay_sim (need_net_ok ok nu hs r) hi)
theorem bs_start {F1 F2 F3 F4 : MF} {rest : MSt} {K : Nat} {d : D} {r : Rw} (h1 : F1 [g.gs s, u.lk, u.ps, .int K] r = some (⟨d, .dat⟩, r)) (h2 : F2 [g.gs s] r = some (⟨.int g.n, .dat⟩, r)) (h3 : F3 [.int g.n, u.lk, u.ps, .int K] r = some (⟨.lst (tbsD g u K), .new⟩, r)) (h4 : F4 [.int g.n, u.ps] r = some (⟨.dT (tabD g u), .new⟩, r)) :
    (mSeq (mDrop (mFn 4 F1 (mCons (mVar 0) (mCons (mVar 1) (mCons (mVar 2) (mCons (mVar 3) mNil))))))
 (mSeq (mAsg 4 (mFn 1 F2 (mCons (mVar 0) mNil)))
 (mSeq (mPar [5, 6, 7, 8] (mCons (mFn 4 F3 (mCons (mVar 4) (mCons (mVar 1) (mCons (mVar 2) (mCons (mVar 3) mNil))))) (mCons (mFn 2 F4 (mCons (mVar 4) (mCons (mVar 2) mNil))) (mCons (mLst mNil) (mCons (mVar 0) mNil))))) rest))) ⟨[some (.dat (g.gs s)), some (.dat u.lk), some (.dat u.ps), some (.dat (.int K)), none, none, none, none, none, none, none, none], r⟩
      = rest ⟨slS g u s K [] s [none, none, none], r⟩ := by
  simp [mSeq, mAsg, mPar, mUnp, mCons, mNil, mStar, mFn, mVar, mCst, mTup, mLst, mBin, mIfS, mIf, mTb, mTr, mTNot, mTOr, mTAnd, mAnd, mOr, mNot, mIs, mCall, f1, mNext, mRet, mRetVar, mDrop, evI, evB, datE, kept, setE, noBor_nil, noBor_cons, noBor_new, noBor_map, mapd_map, noBorK, fAdd, fSub, fMul, fMulI, fDiv, fMod, fInt, fCatL, fCatT, fLt, fLtI, fLtT, fLe, fGt, fGe, fIsN, isNon, fIsNB, ownAt, mApp, mPutT, mPutI, mSetI, frz, mFrz, truD, intsD, isTupD, isIntD, isBoolD, isStrD, isListD, isTLD, itemsD, gLen, gInt, gTuple, mNeg, mChain, mBrk, lim, mSl, mOSome, mONone, bindT, mNever, mTb, h1, h2, h3, h4, slS]
theorem bs_end {K : Nat} {w : List Nat} {i : Nat} {c9 c10 c11 : Option SV} {r : Rw} (ok : GpOk g) (hs : s < g.B) (hl : w.length < 1000) :
    mRet (mTup (mCons (mBin fIx (mBin fIx (mVar 5) (mVar 3)) (mVar 0)) (mCons (mCall (f1 gTuple) (mCons (mVar 7) mNil)) mNil))) ⟨slS g u s K w i [c9, c10, c11], r⟩ = some (.rt ⟨bestD g (Tb g u K s) w, .dat⟩, r) := by
  have e5 := fIx_tbs (g := g) (u := u) (K := K) (k := K) (Nat.le_refl _)
  have e6 := fIx_tbD (u := u) ok (k := K) hs
  have hl2 : ¬ (1000000 < w.length) := by omega
  have hl3 : w.length ≤ 1000000 := by omega
  simp [mSeq, mAsg, mPar, mUnp, mCons, mNil, mStar, mFn, mVar, mCst, mTup, mLst, mBin, mIfS, mIf, mTb, mTr, mTNot, mTOr, mTAnd, mAnd, mOr, mNot, mIs, mCall, f1, mNext, mRet, mRetVar, mDrop, evI, evB, datE, kept, setE, noBor_nil, noBor_cons, noBor_new, noBor_map, mapd_map, noBorK, fAdd, fSub, fMul, fMulI, fDiv, fMod, fInt, fCatL, fCatT, fLt, fLtI, fLtT, fLe, fGt, fGe, fIsN, isNon, fIsNB, ownAt, mApp, mPutT, mPutI, mSetI, frz, mFrz, truD, intsD, isTupD, isIntD, isBoolD, isStrD, isListD, isTLD, itemsD, gLen, gInt, gTuple, mNeg, mChain, mBrk, lim, mSl, mOSome, mONone, bindT, mNever, mTb, slS, e5, e6, bestD, hl2, hl3]
theorem bs_eq : m_best_stay = (mSeq (mDrop (mFn 4 f_need_stay (mCons (mVar 0) (mCons (mVar 1) (mCons (mVar 2) (mCons (mVar 3) mNil))))))
 (mSeq (mAsg 4 (mFn 1 f_size_of (mCons (mVar 0) mNil)))
 (mSeq (mPar [5, 6, 7, 8] (mCons (mFn 4 f_tables (mCons (mVar 4) (mCons (mVar 1) (mCons (mVar 2) (mCons (mVar 3) mNil))))) (mCons (mFn 2 f_price_table (mCons (mVar 4) (mCons (mVar 2) mNil))) (mCons (mLst mNil) (mCons (mVar 0) mNil)))))
 (mSeq (mForS (.one 9) (mRng3 (mCons (mVar 3) (mCons (mCst (.int 0)) (mCons (mNeg (mCst (.int 1))) mNil)))) (bsTurn f_stepped f_worth_of f_all_steps))
 (mRet (mTup (mCons (mBin fIx (mBin fIx (mVar 5) (mVar 3)) (mVar 0)) (mCons (mCall (f1 gTuple) (mCons (mVar 7) mNil)) mNil)))))))) := rfl
theorem best_stay_ok (ok : GpOk g) (nu : NuOk g u) (hs : s < g.B) {K : Nat} (h1 : 1 ≤ K) (h8 : K ≤ 8) (r : Rw) : ∃ w, f_best_stay [g.gs s, u.lk, u.ps, .int K] r = some (⟨bestD g (Tb g u K s) w, .dat⟩, r) ∧ valid g w ∧ w.length = K ∧ tot g u s w = Tb g u K s := by
  obtain ⟨sl', w1, row, c9, c10, c11, rfl, w2, w3, w4⟩ := mFor_rel (t := .one 9) (body := bsTurn f_stepped f_worth_of f_all_steps) (r := r) (fun (i : Nat) => D.int ((K : Int) + (i : Nat) * (-1)))
    (fun Q sl => ∃ row c9 c10 c11, sl = slS g u s K row (wk g s row) [c9, c10, c11] ∧ valid g row ∧ row.length = Q.length ∧ tot g u s row + Tb g u (K - Q.length) (wk g s row) = Tb g u K s)
    (List.range K) (List.range K) [] (slS g u s K [] s [none, none, none]) rfl
    (fun Q i rest sl hp ⟨row, c9, c10, c11, e, h4, h5, h6⟩ => by
      subst e
      obtain ⟨rfl, hi⟩ := range_split hp
      obtain ⟨k, hk⟩ : ∃ k, K = Q.length + (k + 1) := ⟨K - Q.length - 1, by omega⟩
      have e9 : ((K : Int) + (Q.length : Nat) * (-1)) = ((k + 1 : Nat) : Int) := by omega
      obtain ⟨j, hj, hc, c10', c11', hw⟩ := bs_turn (s := s) (K := K) (k := k) (i := wk g s row) (row := row) (a10 := c10) (a11 := c11) (r := r) ok nu ok.step nu.worth ok.steps (by omega) (wk_lt ok hs h4) (by omega)
      refine ⟨slS g u s K row (wk g s row) [some (.dat (.int ((k + 1 : Nat) : Int))), c10, c11], _, ?_, hw, row ++ [j], _, c10', c11', by rw [wk_snoc], valid_snoc h4 hj, by simp [h5], ?_⟩
      · rw [e9]; rfl
      · have e1 : K - Q.length = k + 1 := by omega
        have e2 : K - (Q ++ [Q.length]).length = k := by simp; omega
        rw [e1] at h6
        rw [e2, tot_snoc, wk_snoc]
        unfold cand at hc
        omega)
    ⟨[], none, none, none, rfl, fun j hj => (nomatch hj), rfl, by simp [tot, wk]⟩
  rw [List.length_range] at w3 w4
  refine ⟨row, ?_, w2, w3, ?_⟩
  · refine mBody_rt (sl := [some (.dat (g.gs s)), some (.dat u.lk), some (.dat u.ps), some (.dat (.int K)), none, none, none, none, none, none, none, none]) rfl ?_
    rw [bs_eq]
    refine (bs_start (need_stay_ok ok nu hs h1 h8 r) (ok.size s r hs) (tables_ok ok nu h8 r) (nu.ptab r)).trans ?_
    have hm : (mCons (mVar 3) (mCons (mCst (.int 0)) (mCons (mNeg (mCst (.int 1))) mNil))) ⟨slS g u s K [] s [none, none, none], r⟩ = some ([⟨.int K, .dat⟩, ⟨.int 0, .dat⟩, ⟨.int (-1), .dat⟩], r) := by
      simp [mSeq, mAsg, mPar, mUnp, mCons, mNil, mStar, mFn, mVar, mCst, mTup, mLst, mBin, mIfS, mIf, mTb, mTr, mTNot, mTOr, mTAnd, mAnd, mOr, mNot, mIs, mCall, f1, mNext, mRet, mRetVar, mDrop, evI, evB, datE, kept, setE, noBor_nil, noBor_cons, noBor_new, noBor_map, mapd_map, noBorK, fAdd, fSub, fMul, fMulI, fDiv, fMod, fInt, fCatL, fCatT, fLt, fLtI, fLtT, fLe, fGt, fGe, fIsN, isNon, fIsNB, ownAt, mApp, mPutT, mPutI, mSetI, frz, mFrz, truD, intsD, isTupD, isIntD, isBoolD, isStrD, isListD, isTLD, itemsD, gLen, gInt, gTuple, mNeg, mChain, mBrk, lim, mSl, mOSome, mONone, bindT, mNever, mTb, slS]
    have hit : mRng3 (mCons (mVar 3) (mCons (mCst (.int 0)) (mCons (mNeg (mCst (.int 1))) mNil))) ⟨slS g u s K [] s [none, none, none], r⟩ = some ((List.range K).map (fun (i : Nat) => D.int ((K : Int) + (i : Nat) * (-1))), true, r) := by
      refine (mRng3_eq hm).trans ?_
      have h0 : smallI 0 = true := smallI_ok (K := 0) (by omega)
      rw [if_pos (by rw [smallI_ok (K := K) (by omega), h0]; rfl)]
      have : ((K : Int) - 0).toNat = K := by omega
      rw [this]; rfl
    exact (mSeq_nx ((mForS_eq hit).trans w1)).trans (bs_end ok hs (by omega))
  · rw [Nat.sub_self] at w4
    simpa [Tb] using w4
end
end GD
/-! Kn -/
set_option maxHeartbeats 4000000
/-! Kn: shows_best_stay. -/
namespace GD
open PySem L2
theorem gSum_ints (l : List Int) : gSum (.lst (l.map D.int)) = some ⟨.int l.sum, .dat⟩ := by
  have e : gSum (.lst (l.map D.int)) = (intsD (l.map D.int)).map fun ns => evI ns.sum := rfl
  rw [e, intsD_map]; rfl
theorem fSlL_tail (x : D) (l : List D) : fSlL (.lst (x :: l)) (some 1) none = some ⟨.lst l, .new⟩ := by
  have e : fSlL (.lst (x :: l)) (some 1) none = some ⟨.lst (cutD (x :: l) (some 1) none), .new⟩ := rfl
  have h : HT.sIx (x :: l).length 0 (some 1) = 1 := by
    have := HT.sIx_nat (x :: l).length 0 1
    rw [List.length_cons] at this ⊢
    refine this.trans ?_
    omega
  rw [e]
  unfold cutD
  rw [h]
  have h2 : HT.sIx (x :: l).length (x :: l).length none = (x :: l).length := rfl
  rw [h2, List.length_cons]
  congr 3
  exact List.take_of_length_le (by simp)
section
variable {g : Gp} {u : Nu} {s : Nat}
def slC (a lk ps v : D) (K n b : Int) (t : Sl) : Sl := some (.dat a) :: some (.dat lk) :: some (.dat ps) :: some (.dat (.int K)) :: some (.dat v) :: some (.dat (.int n)) :: some (.dat (.int b)) :: t
theorem sbs_pre {F1 F2 F3 : MF} {rest : MSt} {v d : D} {K : Nat} {r : Rw} (ok : GpOk g) (hs : s < g.B) (h1 : F1 [g.gs s, u.lk, u.ps, .int K] r = some (⟨d, .dat⟩, r)) (h2 : F2 [g.gs s] r = some (⟨.int g.n, .dat⟩, r)) (h3 : F3 [.int g.n, u.lk, u.ps, .int K] r = some (⟨.lst (tbsD g u K), .new⟩, r)) :
    (mSeq (mDrop (mFn 4 F1 (mCons (mVar 0) (mCons (mVar 1) (mCons (mVar 2) (mCons (mVar 3) mNil))))))
 (mSeq (mAsg 5 (mFn 1 F2 (mCons (mVar 0) mNil)))
 (mSeq (mAsg 6 (mBin fIx (mBin fIx (mFn 4 F3 (mCons (mVar 5) (mCons (mVar 1) (mCons (mVar 2) (mCons (mVar 3) mNil))))) (mVar 3)) (mVar 0))) rest))) ⟨[some (.dat (g.gs s)), some (.dat u.lk), some (.dat u.ps), some (.dat (.int K)), some (.dat v), none, none, none, none], r⟩ = rest ⟨slC (g.gs s) u.lk u.ps v K g.n (Tb g u K s) [none, none], r⟩ := by
  have e5 := fIx_tbs (g := g) (u := u) (K := K) (k := K) (Nat.le_refl _)
  have e6 := fIx_tbD (u := u) ok (k := K) hs
  simp [mSeq, mAsg, mPar, mUnp, mCons, mNil, mStar, mFn, mVar, mCst, mTup, mLst, mBin, mIfS, mIf, mTb, mTr, mTNot, mTOr, mTAnd, mAnd, mOr, mNot, mIs, mCall, f1, mNext, mRet, mRetVar, mDrop, evI, evB, datE, kept, setE, noBor_nil, noBor_cons, noBor_new, noBor_map, mapd_map, noBorK, fAdd, fSub, fMul, fMulI, fDiv, fMod, fInt, fCatL, fCatT, fLt, fLtI, fLtT, fLe, fGt, fGe, fIsN, isNon, fIsNB, ownAt, mApp, mPutT, mPutI, mSetI, frz, mFrz, truD, intsD, isTupD, isIntD, isBoolD, isStrD, isListD, isTLD, itemsD, gLen, gInt, gTuple, mNeg, mChain, mBrk, lim, mSl, mOSome, mONone, bindT, mNever, mTb, h1, h2, h3, e5, e6, slC]
abbrev sbsT (F : MF) : MT := (mTOr (mTNot (mTb (mIs isTupD (mVar 4)))) (mTOr (mTb (mBin fNe (mCall (f1 gLen) (mCons (mVar 4) mNil)) (mCst (.int 2)))) (mTNot (mTb (mFn 3 F (mCons (mBin fIx (mVar 4) (mCst (.int 0))) (mCons (mVar 6) (mCons (mVar 6) mNil))))))))
abbrev sbsU (F : MF) : MT := (mTOr (mTNot (mTb (mFn 2 F (mCons (mVar 5) (mCons (mBin fIx (mVar 4) (mCst (.int 1))) mNil))))) (mTb (mBin fNe (mCall (f1 gLen) (mCons (mBin fIx (mVar 4) (mCst (.int 1))) mNil)) (mVar 3))))
theorem sbs_t1 {F : MF} {a lk ps x : D} {v0 K b n : Int} {t : Sl} {r : Rw} {c : Bool} (h : F [.int v0, .int b, .int b] r = some (⟨.bl c, .dat⟩, r)) : sbsT F ⟨slC a lk ps (.tup [.int v0, x]) K n b t, r⟩ = some (!c, r) := by
  have hx : fIx (.tup [.int v0, x]) (.int 0) = some ⟨.int v0, .dat⟩ := rfl
  have h2 : fNe (.int 2) (.int 2) = some ⟨.bl false, .dat⟩ := rfl
  simp [mSeq, mAsg, mPar, mUnp, mCons, mNil, mStar, mFn, mVar, mCst, mTup, mLst, mBin, mIfS, mIf, mTb, mTr, mTNot, mTOr, mTAnd, mAnd, mOr, mNot, mIs, mCall, f1, mNext, mRet, mRetVar, mDrop, evI, evB, datE, kept, setE, noBor_nil, noBor_cons, noBor_new, noBor_map, mapd_map, noBorK, fAdd, fSub, fMul, fMulI, fDiv, fMod, fInt, fCatL, fCatT, fLt, fLtI, fLtT, fLe, fGt, fGe, fIsN, isNon, fIsNB, ownAt, mApp, mPutT, mPutI, mSetI, frz, mFrz, truD, intsD, isTupD, isIntD, isBoolD, isStrD, isListD, isTLD, itemsD, gLen, gInt, gTuple, mNeg, mChain, mBrk, lim, mSl, mOSome, mONone, bindT, mNever, mTb, h, hx, h2, slC]
theorem sbs_t0 {F : MF} {a lk ps v : D} {K b n : Int} {t : Sl} {r : Rw} (h : isTupD v = some false) : sbsT F ⟨slC a lk ps v K n b t, r⟩ = some (true, r) := by
  simp [mTOr, mTNot, mTb, mIs, mVar, slC, h, evB]
theorem sbs_u0 {F : MF} {a lk ps x : D} {v0 K b n : Int} {t : Sl} {r : Rw} (h : F [.int n, x] r = some (⟨.bl false, .dat⟩, r)) : sbsU F ⟨slC a lk ps (.tup [.int v0, x]) K n b t, r⟩ = some (true, r) := by
  have hx : fIx (.tup [.int v0, x]) (.int 1) = some ⟨x, .dat⟩ := rfl
  simp [mSeq, mAsg, mPar, mUnp, mCons, mNil, mStar, mFn, mVar, mCst, mTup, mLst, mBin, mIfS, mIf, mTb, mTr, mTNot, mTOr, mTAnd, mAnd, mOr, mNot, mIs, mCall, f1, mNext, mRet, mRetVar, mDrop, evI, evB, datE, kept, setE, noBor_nil, noBor_cons, noBor_new, noBor_map, mapd_map, noBorK, fAdd, fSub, fMul, fMulI, fDiv, fMod, fInt, fCatL, fCatT, fLt, fLtI, fLtT, fLe, fGt, fGe, fIsN, isNon, fIsNB, ownAt, mApp, mPutT, mPutI, mSetI, frz, mFrz, truD, intsD, isTupD, isIntD, isBoolD, isStrD, isListD, isTLD, itemsD, gLen, gInt, gTuple, mNeg, mChain, mBrk, lim, mSl, mOSome, mONone, bindT, mNever, mTb, h, hx, slC]
theorem sbs_u1 {F : MF} {a lk ps : D} {l : List D} {v0 K b n : Int} {t : Sl} {r : Rw} (h : F [.int n, .tup l] r = some (⟨.bl true, .dat⟩, r)) : sbsU F ⟨slC a lk ps (.tup [.int v0, .tup l]) K n b t, r⟩ = some (!decide ((l.length : Int) = K), r) := by
  have hx : fIx (.tup [.int v0, .tup l]) (.int 1) = some ⟨.tup l, .dat⟩ := rfl
  simp [mSeq, mAsg, mPar, mUnp, mCons, mNil, mStar, mFn, mVar, mCst, mTup, mLst, mBin, mIfS, mIf, mTb, mTr, mTNot, mTOr, mTAnd, mAnd, mOr, mNot, mIs, mCall, f1, mNext, mRet, mRetVar, mDrop, evI, evB, datE, kept, setE, noBor_nil, noBor_cons, noBor_new, noBor_map, mapd_map, noBorK, fAdd, fSub, fMul, fMulI, fDiv, fMod, fInt, fCatL, fCatT, fLt, fLtI, fLtT, fLe, fGt, fGe, fIsN, isNon, fIsNB, ownAt, mApp, mPutT, mPutI, mSetI, frz, mFrz, truD, intsD, isTupD, isIntD, isBoolD, isStrD, isListD, isTLD, itemsD, gLen, gInt, gTuple, mNeg, mChain, mBrk, lim, mSl, mOSome, mONone, bindT, mNever, mTb, h, hx, slC, fNe_int]
abbrev sbsF (F6 F7 F8 : MF) : MSt := (mSeq (mAsg 7 (mLc (.one 8) [8] (mIt (mSl fSlL (mFn 2 F7 (mCons (mVar 0) (mCons (mBin fIx (mVar 4) (mCst (.int 1))) mNil))) (mOSome (mCst (.int 1))) mONone)) mYes (mFn 2 F6 (mCons (mVar 8) (mCons (mVar 1) mNil)))))
 (mRet (mBin fEq (mBin fSub (mCall (f1 gSum) (mCons (mVar 7) mNil)) (mFn 3 F8 (mCons (mVar 5) (mCons (mVar 2) (mCons (mBin fIx (mVar 4) (mCst (.int 1))) mNil))))) (mVar 6))))
theorem sbs_f1 {F6 F7 F8 : MF} {a lk ps x : D} {v0 K b n : Int} {r : Rw} {L M : List D} {gv pv : Int} {gl : List Int} (h7 : F7 [a, x] r = some (⟨.lst L, .new⟩, r)) (hL : fSlL (.lst L) (some 1) none = some ⟨.lst M, .new⟩)
    (hg : mLcGo (.one 8) mYes (mFn 2 F6 (mCons (mVar 8) (mCons (mVar 1) mNil))) (slC a lk ps (.tup [.int v0, x]) K n b [none, none]) M r [] = some (gl.map D.int, r)) (hsum : gSum (.lst (gl.map D.int)) = some ⟨.int gv, .dat⟩) (h8 : F8 [.int n, ps, x] r = some (⟨.int pv, .dat⟩, r)) :
    sbsF F6 F7 F8 ⟨slC a lk ps (.tup [.int v0, x]) K n b [none, none], r⟩ = some (.rt ⟨.bl (decide (gv - pv = b)), .dat⟩, r) := by
  have hx : fIx (.tup [.int v0, x]) (.int 1) = some ⟨x, .dat⟩ := rfl
  have hit : mIt (mSl fSlL (mFn 2 F7 (mCons (mVar 0) (mCons (mBin fIx (mVar 4) (mCst (.int 1))) mNil))) (mOSome (mCst (.int 1))) mONone) ⟨slC a lk ps (.tup [.int v0, x]) K n b [none, none], r⟩ = some (M, true, r) := by
    simp [mSeq, mAsg, mPar, mUnp, mCons, mNil, mStar, mFn, mVar, mCst, mTup, mLst, mBin, mIfS, mIf, mTb, mTr, mTNot, mTOr, mTAnd, mAnd, mOr, mNot, mIs, mCall, f1, mNext, mRet, mRetVar, mDrop, evI, evB, datE, kept, setE, noBor_nil, noBor_cons, noBor_new, noBor_map, mapd_map, noBorK, fAdd, fSub, fMul, fMulI, fDiv, fMod, fInt, fCatL, fCatT, fLt, fLtI, fLtT, fLe, fGt, fGe, fIsN, isNon, fIsNB, ownAt, mApp, mPutT, mPutI, mSetI, frz, mFrz, truD, intsD, isTupD, isIntD, isBoolD, isStrD, isListD, isTLD, itemsD, gLen, gInt, gTuple, mNeg, mChain, mBrk, lim, mSl, mOSome, mONone, bindT, mNever, mTb, mIt, itD, slC, h7, hx, hL]
  have hw : wipeS (slC a lk ps (.tup [.int v0, x]) K n b [none, none]) [8] = slC a lk ps (.tup [.int v0, x]) K n b [none, none] := rfl
  have s1 : mAsg 7 (mLc (.one 8) [8] (mIt (mSl fSlL (mFn 2 F7 (mCons (mVar 0) (mCons (mBin fIx (mVar 4) (mCst (.int 1))) mNil))) (mOSome (mCst (.int 1))) mONone)) mYes (mFn 2 F6 (mCons (mVar 8) (mCons (mVar 1) mNil)))) ⟨slC a lk ps (.tup [.int v0, x]) K n b [none, none], r⟩ = some (.nx (slC a lk ps (.tup [.int v0, x]) K n b [some (.own (.lst (gl.map D.int))), none]), r) := by
    simp only [mAsg, mLc, hit, Option.bind_some, hw, hg, Option.map_some, kept]
    rfl
  refine (mSeq_nx s1).trans ?_
  simp [mSeq, mAsg, mPar, mUnp, mCons, mNil, mStar, mFn, mVar, mCst, mTup, mLst, mBin, mIfS, mIf, mTb, mTr, mTNot, mTOr, mTAnd, mAnd, mOr, mNot, mIs, mCall, f1, mNext, mRet, mRetVar, mDrop, evI, evB, datE, kept, setE, noBor_nil, noBor_cons, noBor_new, noBor_map, mapd_map, noBorK, fAdd, fSub, fMul, fMulI, fDiv, fMod, fInt, fCatL, fCatT, fLt, fLtI, fLtT, fLe, fGt, fGe, fIsN, isNon, fIsNB, ownAt, mApp, mPutT, mPutI, mSetI, frz, mFrz, truD, intsD, isTupD, isIntD, isBoolD, isStrD, isListD, isTLD, itemsD, gLen, gInt, gTuple, mNeg, mChain, mBrk, lim, mSl, mOSome, mONone, bindT, mNever, mTb, slC, hsum, h8, hx, fEq_int]
theorem sbs_eq : m_shows_best_stay = (mSeq (mDrop (mFn 4 f_need_stay (mCons (mVar 0) (mCons (mVar 1) (mCons (mVar 2) (mCons (mVar 3) mNil))))))
 (mSeq (mAsg 5 (mFn 1 f_size_of (mCons (mVar 0) mNil)))
 (mSeq (mAsg 6 (mBin fIx (mBin fIx (mFn 4 f_tables (mCons (mVar 5) (mCons (mVar 1) (mCons (mVar 2) (mCons (mVar 3) mNil))))) (mVar 3)) (mVar 0)))
 (mSeq (mIfS (sbsT f_is_in) (mRet (mCst (.bl false))) mNext)
 (mSeq (mIfS (sbsU f_is_row) (mRet (mCst (.bl false))) mNext) (sbsF f_worth_of f_trace f_price_of)))))) := rfl
theorem is_row_sim {F : MF} {n x : D} {c : Bool} {r : Rw} (h : F [n, x, .int 40] r = some (⟨.bl c, .dat⟩, r)) : (mRet (mFn 3 F (mCons (mVar 0) (mCons (mVar 1) (mCons (mCst (.int 40)) mNil))))) ⟨[some (.dat n), some (.dat x)], r⟩ = some (.rt ⟨.bl c, .dat⟩, r) := by
  simp [mSeq, mAsg, mPar, mUnp, mCons, mNil, mStar, mFn, mVar, mCst, mTup, mLst, mBin, mIfS, mIf, mTb, mTr, mTNot, mTOr, mTAnd, mAnd, mOr, mNot, mIs, mCall, f1, mNext, mRet, mRetVar, mDrop, evI, evB, datE, kept, setE, noBor_nil, noBor_cons, noBor_new, noBor_map, mapd_map, noBorK, fAdd, fSub, fMul, fMulI, fDiv, fMod, fInt, fCatL, fCatT, fLt, fLtI, fLtT, fLe, fGt, fGe, fIsN, isNon, fIsNB, ownAt, mApp, mPutT, mPutI, mSetI, frz, mFrz, truD, intsD, isTupD, isIntD, isBoolD, isStrD, isListD, isTLD, itemsD, gLen, gInt, gTuple, mNeg, mChain, mBrk, lim, mSl, mOSome, mONone, bindT, mNever, mTb, h]
theorem is_row_of {n x : D} {c : Bool} {r : Rw} (h : f_are_steps [n, x, .int 40] r = some (⟨.bl c, .dat⟩, r)) : f_is_row [n, x] r = some (⟨.bl c, .dat⟩, r) :=
  mBody_rt (sl := [some (.dat n), some (.dat x)]) rfl (is_row_sim h)
/-- gains along a row -/
def gains (g : Gp) (u : Nu) : Nat → List Nat → List Int
  | _, [] => []
  | i, j :: w => u.W (g.nx i j) :: gains g u (g.nx i j) w
theorem gains_tot : ∀ {w : List Nat} {i : Nat}, (gains g u i w).sum - cost u w = tot g u i w
  | [], i => by simp [gains, cost, tot]
  | j :: w, i => by
    have := gains_tot (w := w) (i := g.nx i j)
    unfold cost at this
    simp only [gains, cost, tot, List.map_cons, List.sum_cons]
    omega
/-- the places behind each step -/
def behind (g : Gp) : Nat → List Nat → List Nat
  | _, [] => []
  | i, j :: w => g.nx i j :: behind g (g.nx i j) w
theorem gains_behind : ∀ {w : List Nat} {i : Nat}, gains g u i w = (behind g i w).map u.W
  | [], i => rfl
  | j :: w, i => by simp only [gains, behind, List.map_cons]; rw [gains_behind]
theorem behind_lt (ok : GpOk g) : ∀ {w : List Nat} {i : Nat}, i < g.B → valid g w → ∀ k ∈ behind g i w, k < g.B
  | [], _, _, _, _, h => by cases h
  | j :: w, i, hi, hv, k, h => by
    have hj := ok.nxlt i j hi (hv j List.mem_cons_self)
    rcases List.mem_cons.mp h with rfl | h
    · exact hj
    · exact behind_lt ok hj (fun m hm => hv m (List.mem_cons_of_mem _ hm)) k h
theorem nodes_behind : ∀ {w : List Nat} {i : Nat}, nodes g i w = i :: behind g i w
  | [], i => rfl
  | j :: w, i => by
    have h := nodes_behind (w := w) (i := g.nx i j)
    unfold nodes at h ⊢
    rw [List.length_cons, List.range_succ_eq_map, List.map_cons, List.map_map]
    have e : (fun k => wk g i (List.take k (j :: w))) ∘ Nat.succ = fun k => wk g (g.nx i j) (List.take k w) := by
      funext k
      rfl
    rw [e, h]; rfl
theorem behind_len : ∀ {w : List Nat} {i : Nat}, (behind g i w).length = w.length
  | [], _ => rfl
  | j :: w, i => by simp only [behind, List.length_cons]; rw [behind_len]
/-- what shows_best_stay answers at a value -/
inductive StayV (g : Gp) (u : Nu) (s K : Nat) (b : Int) : D → Bool → Prop where
  | word (v0 : Int) (w : List Nat) (hv : valid g w) (hl : w.length ≤ 40) : StayV g u s K b (.tup [.int v0, wdD g w]) (decide (v0 = b) && (decide (w.length = K) && decide (tot g u s w = b)))
  | no (v : D) (h : isTupD v = some false) : StayV g u s K b v false
  | noword (v0 : Int) (x : D) (h : isTupD x = some false) : StayV g u s K b (.tup [.int v0, x]) false
theorem shows_stay_ok (ok : GpOk g) (nu : NuOk g u) (hs : s < g.B) {K : Nat} (h1 : 1 ≤ K) (h8 : K ≤ 8) {r : Rw} {v : D} {c : Bool} (hv : StayV g u s K (Tb g u K s) v c) : f_shows_best_stay [g.gs s, u.lk, u.ps, .int K, v] r = some (⟨.bl c, .dat⟩, r) := by
  refine mBody_rt (sl := [some (.dat (g.gs s)), some (.dat u.lk), some (.dat u.ps), some (.dat (.int K)), some (.dat v), none, none, none, none]) rfl ?_
  rw [sbs_eq]
  refine (sbs_pre (d := .non) ok hs (need_stay_ok ok nu hs h1 h8 r) (ok.size s r hs) (tables_ok ok nu h8 r)).trans ?_
  generalize Tb g u K s = b at hv
  cases hv with
  | no v h => exact mSeq_if1 (sbs_t0 h) ret_bl
  | noword v0 x h =>
    have t := sbs_t1 (a := g.gs s) (lk := u.lk) (ps := u.ps) (x := x) (K := K) (n := g.n) (t := [none, none]) (isin_ok v0 b b r)
    cases hc : (decide (b ≤ v0) && decide (v0 ≤ b)) with
    | false =>
      rw [hc] at t
      exact mSeq_if1 t ret_bl
    | true =>
      rw [hc] at t
      rw [mSeq_if0 t]
      exact mSeq_if1 (sbs_u0 (is_row_of (are_lst r h))) ret_bl
  | word v0 w hv hl =>
    have t := sbs_t1 (a := g.gs s) (lk := u.lk) (ps := u.ps) (x := wdD g w) (K := K) (n := g.n) (t := [none, none]) (isin_ok v0 b b r)
    by_cases hb : v0 = b
    · subst hb
      have hc : (decide (v0 ≤ v0) && decide (v0 ≤ v0)) = true := by simp
      rw [hc] at t
      rw [mSeq_if0 t]
      have ha := are_ok ok hv 40 r
      have : decide ((w.length : Int) ≤ 40) = true := by simp; omega
      rw [this] at ha
      have t2 := sbs_u1 (a := g.gs s) (lk := u.lk) (ps := u.ps) (l := w.map g.st) (v0 := v0) (K := K) (b := v0) (n := g.n) (t := [none, none]) (is_row_of ha)
      rw [List.length_map] at t2
      by_cases hK : w.length = K
      · have e : decide ((w.length : Int) = (K : Int)) = true := decide_eq_true (by omega)
        rw [e] at t2
        rw [mSeq_if0 t2]
        have hg : mLcGo (.one 8) mYes (mFn 2 f_worth_of (mCons (mVar 8) (mCons (mVar 1) mNil))) (slC (g.gs s) u.lk u.ps (.tup [.int v0, wdD g w]) K g.n v0 [none, none]) ((behind g s w).map g.gs) r [] = some ((gains g u s w).map D.int, r) := by
          have hlen := behind_len (g := g) (w := w) (i := s)
          have := mLcGo_all (t := .one 8) (me := mFn 2 f_worth_of (mCons (mVar 8) (mCons (mVar 1) mNil))) (slw := slC (g.gs s) u.lk u.ps (.tup [.int v0, wdD g w]) K g.n v0 [none, none]) (r := r) g.gs (fun k => D.int (u.W k)) (L := behind g s w) (by rw [hlen]; have : lim = 1000000 := rfl; omega) (fun k hk => by
            have h2 := nu.worth k r (behind_lt ok hs hv k hk)
            refine ⟨slC (g.gs s) u.lk u.ps (.tup [.int v0, wdD g w]) K g.n v0 [none, some (.dat (g.gs k))], .dat, by decide, rfl, ?_⟩
            simp [mFn, mCons, mNil, mVar, slC, noBor_nil, noBor_cons, noBorK, h2])
          rw [this, gains_behind, List.map_map]; rfl
        have hL : fSlL (.lst ((nodes g s w).map g.gs)) (some 1) none = some ⟨.lst ((behind g s w).map g.gs), .new⟩ := by
          rw [nodes_behind, List.map_cons]; exact fSlL_tail _ _
        refine (sbs_f1 (trace_ok ok hs hv (by omega) r) hL hg (gSum_ints _) (price_of_ok ok nu hv (by omega) r)).trans ?_
        rw [gains_tot]
        simp [hK]
      · have e : decide ((w.length : Int) = (K : Int)) = false := decide_eq_false (by omega)
        rw [e] at t2
        refine (mSeq_if1 t2 ret_bl).trans ?_
        simp [hK]
    · have hc : (decide (b ≤ v0) && decide (v0 ≤ b)) = false := by
        by_cases h1 : b ≤ v0
        · have : ¬ v0 ≤ b := fun z => hb (by omega)
          simp [this]
        · simp [h1]
      rw [hc] at t
      refine (mSeq_if1 t ret_bl).trans ?_
      simp [hb]
end
end GD
/-! Ko -/
set_option maxHeartbeats 4000000
/-! Ko: stay_worths. -/
namespace GD
open PySem L2
/-! ### the mirrors, step by step -/
section
variable {S : Sl} {r r1 r2 r3 : Rw} {e e1 e2 e3 : EV} {es : List EV}
theorem e_var {i : Nat} {d : D} (h : S[i]? = some (some (.dat d))) : mVar i ⟨S, r⟩ = some (⟨d, .dat⟩, r) := by simp [mVar, h]
theorem e_varO {i : Nat} {d : D} (h : S[i]? = some (some (.own d))) : mVar i ⟨S, r⟩ = some (⟨d, .bor⟩, r) := by simp [mVar, h]
theorem e_cst {d : D} : mCst d ⟨S, r⟩ = some (⟨d, .dat⟩, r) := rfl
theorem e_bin {f : D → D → Option EV} {A B : ME} (hA : A ⟨S, r⟩ = some (e1, r1)) (hB : B ⟨S, r1⟩ = some (e2, r2)) (hf : f e1.d e2.d = some e) : mBin f A B ⟨S, r⟩ = some (e, r2) := by
  unfold mBin
  simp only
  rw [hA, Option.bind_some]
  simp only
  rw [hB, Option.bind_some]
  simp only
  rw [hf]; rfl
theorem e_nil : mNil ⟨S, r⟩ = some ([], r) := rfl
theorem e_cons {A : ME} {B : MA} (hA : A ⟨S, r⟩ = some (e, r1)) (hB : B ⟨S, r1⟩ = some (es, r2)) : mCons A B ⟨S, r⟩ = some (e :: es, r2) := by
  unfold mCons
  simp only
  rw [hA, Option.bind_some]
  simp only
  rw [hB]; rfl
theorem e_tup {B : MA} (hB : B ⟨S, r⟩ = some (es, r1)) (hn : noBor es = true) (hl : es.length ≤ lim) : mTup B ⟨S, r⟩ = some (⟨.tup (es.map (·.d)), .dat⟩, r1) := by
  unfold mTup
  rw [hB, Option.bind_some]
  simp only
  rw [if_pos (by rw [hn, decide_eq_true hl]; rfl)]
theorem e_lst {B : MA} (hB : B ⟨S, r⟩ = some (es, r1)) (hn : noBor es = true) (hl : es.length ≤ lim) : mLst B ⟨S, r⟩ = some (⟨.lst (es.map (·.d)), .new⟩, r1) := by
  unfold mLst
  rw [hB, Option.bind_some]
  simp only
  rw [if_pos (by rw [hn, decide_eq_true hl]; rfl)]
theorem e_fn {n : Nat} {F : MF} {B : MA} (hB : B ⟨S, r⟩ = some (es, r1)) (hn : noBor es = true) (hl : es.length = n) (hF : F (es.map (·.d)) r1 = some (e, r2)) (hb : noBorK e = true) : mFn n F B ⟨S, r⟩ = some (e, r2) := by
  unfold mFn
  rw [hB, Option.bind_some]
  simp only
  rw [if_pos (by rw [hn, decide_eq_true hl]; rfl), hF, Option.bind_some, if_pos hb]
theorem e_call {f : List D → Option EV} {B : MA} (hB : B ⟨S, r⟩ = some (es, r1)) (hf : f (es.map (·.d)) = some e) : mCall f B ⟨S, r⟩ = some (e, r1) := by
  unfold mCall
  rw [hB, Option.bind_some]
  simp only
  rw [hf]; rfl
theorem e_is {f : D → Option Bool} {A : ME} {b : Bool} (hA : A ⟨S, r⟩ = some (e, r1)) (hf : f e.d = some b) : mIs f A ⟨S, r⟩ = some (⟨.bl b, .dat⟩, r1) := by
  unfold mIs
  rw [hA, Option.bind_some]
  simp only
  rw [hf]; rfl
theorem e_tb {A : ME} {b : Bool} {k : Kd} (hA : A ⟨S, r⟩ = some (⟨.bl b, k⟩, r1)) : mTb A ⟨S, r⟩ = some (b, r1) := by
  unfold mTb
  rw [hA]; rfl
theorem e_not {A : MT} {b : Bool} (hA : A ⟨S, r⟩ = some (b, r1)) : mTNot A ⟨S, r⟩ = some (!b, r1) := by
  unfold mTNot
  rw [hA]; rfl
theorem e_or0 {A B : MT} {b : Bool} (hA : A ⟨S, r⟩ = some (false, r1)) (hB : B ⟨S, r1⟩ = some (b, r2)) : mTOr A B ⟨S, r⟩ = some (b, r2) := by
  unfold mTOr
  rw [hA]; exact hB
theorem e_or1 {A B : MT} (hA : A ⟨S, r⟩ = some (true, r1)) : mTOr A B ⟨S, r⟩ = some (true, r1) := by
  unfold mTOr
  rw [hA]; rfl
theorem e_and1 {A B : ME} {k : Kd} (hA : A ⟨S, r⟩ = some (⟨.bl true, k⟩, r1)) (hB : B ⟨S, r1⟩ = some (e, r2)) : mAnd A B ⟨S, r⟩ = some (e, r2) := by
  unfold mAnd
  rw [hA]; exact hB
theorem e_and0 {A B : ME} {k : Kd} (hA : A ⟨S, r⟩ = some (⟨.bl false, k⟩, r1)) : mAnd A B ⟨S, r⟩ = some (⟨.bl false, .dat⟩, r1) := by
  unfold mAnd
  rw [hA]; rfl
theorem e_asg {i : Nat} {A : ME} {v : SV} (hA : A ⟨S, r⟩ = some (e, r1)) (hk : kept e = some v) : mAsg i A ⟨S, r⟩ = some (.nx (S.set i (some v)), r1) := by
  unfold mAsg
  simp only
  rw [hA, Option.bind_some]
  simp only
  rw [hk]; rfl
theorem e_app {i : Nat} {A : ME} {l : List D} (hA : A ⟨S, r⟩ = some (e, r1)) (hb : noBorK e = true) (ho : ownAt i S = some (.lst l)) (hl : l.length < lim) : mApp i A ⟨S, r⟩ = some (.nx (S.set i (some (.own (.lst (l ++ [e.d]))))), r1) := by
  unfold mApp
  simp only
  rw [hA, Option.bind_some]
  simp only
  rw [if_pos hb, ho, Option.bind_some]
  simp only
  rw [if_pos hl]
theorem e_it {A : ME} {L : List D} (hA : A ⟨S, r⟩ = some (e, r1)) (hi : itD e.d = some L) : mIt A ⟨S, r⟩ = some (L, noBorK e, r1) := by
  unfold mIt
  rw [hA, Option.bind_some]
  simp only
  rw [hi]; rfl
theorem e_lc {t : Tg} {vs : List Nat} {mi : MI} {mt : MT} {me : ME} {L M : List D} {b : Bool} {Sw : Sl} (hi : mi ⟨S, r⟩ = some (L, b, r1)) (hw : wipeS S vs = Sw) (hg : mLcGo t mt me Sw L r1 [] = some (M, r2)) : mLc t vs mi mt me ⟨S, r⟩ = some (⟨.lst M, .new⟩, r2) := by
  subst hw
  unfold mLc
  simp only
  rw [hi, Option.bind_some]
  simp only
  rw [hg]; rfl
theorem e_ret {A : ME} (hA : A ⟨S, r⟩ = some (e, r1)) (hb : noBorK e = true) : mRet A ⟨S, r⟩ = some (.rt e, r1) := by
  unfold mRet
  rw [hA, Option.bind_some]
  simp only
  rw [if_pos hb]
theorem e_slT {A : ME} {l : List D} {k : Kd} {lo hi : MO} {i j : Option Int} (hA : A ⟨S, r⟩ = some (⟨.tup l, k⟩, r1)) (hl : lo ⟨S, r1⟩ = some (i, r2)) (hh : hi ⟨S, r2⟩ = some (j, r3)) : mSl fSlT A lo hi ⟨S, r⟩ = some (⟨.tup (cutD l i j), .dat⟩, r3) := by
  unfold mSl
  simp only
  rw [hA, Option.bind_some]
  simp only
  rw [hl, Option.bind_some]
  simp only
  rw [hh, Option.bind_some]; rfl
end
theorem mRng2_eq {m : MA} {s : MS} {i j : Int} {r : Rw} (h : m s = some ([⟨.int i, .dat⟩, ⟨.int j, .dat⟩], r)) : mRng2 m s = if (smallI i && smallI j) = true then some (rngD i (j - i).toNat, true, r) else none := by
  unfold mRng2
  rw [h]; rfl
section
variable {g : Gp} {u : Nu} {s : Nat}
def rowD (g : Gp) (u : Nu) (k : Nat) : D := .tup ((List.range g.B).map fun i => .int (Tb g u k i))
def slY (u : Nu) (K : Nat) (a3 a4 a5 a6 : Option SV) : Sl := [some (.dat u.lk), some (.dat u.ps), some (.dat (.int K)), a3, a4, a5, a6]
theorem sizes_ok {F : MF} {K : Nat} (n3 : g.n = 1 ∨ g.n = 2 ∨ g.n = 3) (hF : ∀ (m : Nat) r, 1 ≤ m → m ≤ 6 → F [.int m, u.lk] r = some (⟨.bl (decide (m = g.n)), .dat⟩, r)) {r : Rw} :
    mAsg 3 (mLc (.one 4) [4] (mRng2 (mCons (mCst (.int 1)) (mCons (mBin fAdd (mCst (.int 6)) (mCst (.int 1))) mNil))) (mTb (mFn 2 F (mCons (mVar 4) (mCons (mVar 0) mNil)))) (mVar 4)) ⟨slY u K none none none none, r⟩ = some (.nx (slY u K (some (.own (.lst [.int g.n]))) none none none), r) := by
  have hm : (mCons (mCst (.int 1)) (mCons (mBin fAdd (mCst (.int 6)) (mCst (.int 1))) mNil)) ⟨slY u K none none none none, r⟩ = some ([⟨.int 1, .dat⟩, ⟨.int 7, .dat⟩], r) := by
    have : fAdd (.int 6) (.int 1) = some ⟨.int 7, .dat⟩ := rfl
    simp [mCons, mNil, mCst, mBin, this]
  have hit : mRng2 (mCons (mCst (.int 1)) (mCons (mBin fAdd (mCst (.int 6)) (mCst (.int 1))) mNil)) ⟨slY u K none none none none, r⟩ = some ((List.range 6).map (fun (i : Nat) => D.int (1 + (i : Nat))), true, r) := by
    refine (mRng2_eq hm).trans ?_
    rw [if_pos (by decide +kernel)]; rfl
  have hgo := mLcGo_map (t := .one 4) (mt := mTb (mFn 2 F (mCons (mVar 4) (mCons (mVar 0) mNil)))) (me := mVar 4) (slw := slY u K none none none none) (r := r) (fun (i : Nat) => D.int (1 + (i : Nat))) (fun i => decide (i + 1 = g.n)) (fun (i : Nat) => D.int (1 + (i : Nat))) (L := List.range 6) (acc := []) (by decide) (fun i hi => by
    have hi := List.mem_range.mp hi
    have h := hF (i + 1) r (by omega) (by omega)
    have e : ((i + 1 : Nat) : Int) = 1 + (i : Int) := by omega
    rw [e] at h
    refine ⟨slY u K none (some (.dat (.int (1 + (i : Nat))))) none none, rfl, ?_, fun _ => ⟨.dat, by decide, rfl⟩⟩
    simp [mTb, mFn, mCons, mNil, mVar, slY, noBor_nil, noBor_cons, noBorK, h])
  have hf : ((List.range 6).filter fun i => decide (i + 1 = g.n)).map (fun (i : Nat) => D.int (1 + (i : Nat))) = [.int g.n] := by
    rcases n3 with h | h | h <;> rw [h] <;> rfl
  rw [hf] at hgo
  have hw : wipeS (slY u K none none none none) [4] = slY u K none none none none := rfl
  exact e_asg (e_lc hit hw hgo) rfl
theorem inner_ok (ok : GpOk g) {K k : Nat} {a3 a4 a6 : Option SV} {r : Rw} :
    mCall (f1 gTuple) (mCons (mLc (.one 6) [6] (mIt (mCall gSortA (mCons (mVar 5) mNil))) mYes (mBin fIx (mVar 5) (mVar 6))) mNil) ⟨slY u K a3 a4 (some (.dat (tbD g u k))) a6, r⟩ = some (⟨rowD g u k, .dat⟩, r) := by
  have hkeys : (encA g.gs D.int (tbF g u k (List.range g.B))).map (·.1) = (List.range g.B).map g.gs := by
    unfold encA tbF
    rw [List.map_map, List.map_map]; rfl
  have hlen : (encA g.gs D.int (tbF g u k (List.range g.B))).length ≤ lim := by
    have : (encA g.gs D.int (tbF g u k (List.range g.B))).length = g.B := by unfold encA tbF; simp
    rw [this]
    have := ok.b5
    have : lim = 1000000 := rfl
    omega
  have hs : gSortA [tbD g u k] = some ⟨.lst ((List.range g.B).map g.gs), .new⟩ := by
    unfold tbD
    rw [gSortA_dT, hkeys, sortable_gs ok fun k hk => List.mem_range.mp hk, decide_eq_true hlen]
    have e : isort leD ((List.range g.B).map g.gs) = (isort leN (List.range g.B)).map g.gs := isort_map ok.gle fun k hk => List.mem_range.mp hk
    have b : isort leN (List.range g.B) = List.range g.B := ok.bsort
    rw [e, b]; rfl
  have hit : mIt (mCall gSortA (mCons (mVar 5) mNil)) ⟨slY u K a3 a4 (some (.dat (tbD g u k))) a6, r⟩ = some ((List.range g.B).map g.gs, true, r) := by
    have v5 : mVar 5 ⟨slY u K a3 a4 (some (.dat (tbD g u k))) a6, r⟩ = some (⟨tbD g u k, .dat⟩, r) := rfl
    simp [mIt, mCall, mCons, mNil, v5, hs, itD, noBorK]
  have hgo := mLcGo_all (t := .one 6) (me := mBin fIx (mVar 5) (mVar 6)) (slw := slY u K a3 a4 (some (.dat (tbD g u k))) none) (r := r) g.gs (fun i => D.int (Tb g u k i)) (L := List.range g.B) (by rw [List.length_range]; have := ok.b5; have : lim = 1000000 := rfl; omega) (fun i hi => by
    have h := fIx_tbD (u := u) ok (k := k) (List.mem_range.mp hi)
    refine ⟨slY u K a3 a4 (some (.dat (tbD g u k))) (some (.dat (g.gs i))), .dat, by decide, rfl, ?_⟩
    have v5 : mVar 5 ⟨slY u K a3 a4 (some (.dat (tbD g u k))) (some (.dat (g.gs i))), r⟩ = some (⟨tbD g u k, .dat⟩, r) := rfl
    have v6 : mVar 6 ⟨slY u K a3 a4 (some (.dat (tbD g u k))) (some (.dat (g.gs i))), r⟩ = some (⟨g.gs i, .dat⟩, r) := rfl
    simp only [mBin, v5, v6, Option.bind_some, h, Option.map_some])
  have hw : wipeS (slY u K a3 a4 (some (.dat (tbD g u k))) a6) [6] = slY u K a3 a4 (some (.dat (tbD g u k))) none := rfl
  exact e_call (f := f1 gTuple) (e_cons (e_lc hit hw hgo) e_nil) rfl
theorem worths_eq : m_stay_worths = (mSeq (mAsg 3 (mLc (.one 4) [4] (mRng2 (mCons (mCst (.int 1)) (mCons (mBin fAdd (mCst (.int 6)) (mCst (.int 1))) mNil))) (mTb (mFn 2 f_are_likings (mCons (mVar 4) (mCons (mVar 0) mNil)))) (mVar 4)))
 (mSeq (mIfS (mTNot (mTr (mVar 3)))
 mNever
 mNext)
 (mSeq (mDrop (mFn 2 f_need_prices (mCons (mBin fIx (mVar 3) (mCst (.int 0))) (mCons (mVar 1) mNil))))
 (mSeq (mIfS (mTNot (mTb (mFn 3 f_is_in (mCons (mVar 2) (mCons (mCst (.int 1)) (mCons (mCst (.int 8)) mNil))))))
 mNever
 mNext)
 (mRet (mCall (f1 gTuple) (mCons (mLc (.one 5) [5] (mIt (mFn 4 f_tables (mCons (mBin fIx (mVar 3) (mCst (.int 0))) (mCons (mVar 0) (mCons (mVar 1) (mCons (mVar 2) mNil)))))) mYes (mCall (f1 gTuple) (mCons (mLc (.one 6) [6] (mIt (mCall gSortA (mCons (mVar 5) mNil))) mYes (mBin fIx (mVar 5) (mVar 6))) mNil))) mNil))))))) := rfl
theorem worths_mid {F1 F2 : MF} {rest : MSt} {K : Nat} {d : D} {r : Rw} (h1 : F1 [.int g.n, u.ps] r = some (⟨d, .dat⟩, r)) (h2 : F2 [.int K, .int 1, .int 8] r = some (⟨.bl true, .dat⟩, r)) :
    (mSeq (mIfS (mTNot (mTr (mVar 3)))
 mNever
 mNext)
 (mSeq (mDrop (mFn 2 F1 (mCons (mBin fIx (mVar 3) (mCst (.int 0))) (mCons (mVar 1) mNil))))
 (mSeq (mIfS (mTNot (mTb (mFn 3 F2 (mCons (mVar 2) (mCons (mCst (.int 1)) (mCons (mCst (.int 8)) mNil))))))
 mNever
 mNext) rest))) ⟨slY u K (some (.own (.lst [.int g.n]))) none none none, r⟩ = rest ⟨slY u K (some (.own (.lst [.int g.n]))) none none none, r⟩ := by
  have hx : fIx (.lst [.int g.n]) (.int 0) = some ⟨.int g.n, .dat⟩ := rfl
  simp [mSeq, mAsg, mPar, mUnp, mCons, mNil, mStar, mFn, mVar, mCst, mTup, mLst, mBin, mIfS, mIf, mTb, mTr, mTNot, mTOr, mTAnd, mAnd, mOr, mNot, mIs, mCall, f1, mNext, mRet, mRetVar, mDrop, evI, evB, datE, kept, setE, noBor_nil, noBor_cons, noBor_new, noBor_map, mapd_map, noBorK, fAdd, fSub, fMul, fMulI, fDiv, fMod, fInt, fCatL, fCatT, fLt, fLtI, fLtT, fLe, fGt, fGe, fIsN, isNon, fIsNB, ownAt, mApp, mPutT, mPutI, mSetI, frz, mFrz, truD, intsD, isTupD, isIntD, isBoolD, isStrD, isListD, isTLD, itemsD, gLen, gInt, gTuple, mNeg, mChain, mBrk, lim, mSl, mOSome, mONone, bindT, mNever, mTb, slY, hx, h1, h2]
theorem worths_last {F : MF} (ok : GpOk g) {K : Nat} (h8 : K ≤ 8) {r : Rw} (ht : F [.int g.n, u.lk, u.ps, .int K] r = some (⟨.lst (tbsD g u K), .new⟩, r)) : (mRet (mCall (f1 gTuple) (mCons (mLc (.one 5) [5] (mIt (mFn 4 F (mCons (mBin fIx (mVar 3) (mCst (.int 0))) (mCons (mVar 0) (mCons (mVar 1) (mCons (mVar 2) mNil)))))) mYes (mCall (f1 gTuple) (mCons (mLc (.one 6) [6] (mIt (mCall gSortA (mCons (mVar 5) mNil))) mYes (mBin fIx (mVar 5) (mVar 6))) mNil))) mNil))) ⟨slY u K (some (.own (.lst [.int g.n]))) none none none, r⟩ = some (.rt ⟨.tup ((List.range (K + 1)).map (rowD g u)), .dat⟩, r) := by
  have hx : fIx (.lst [.int g.n]) (.int 0) = some ⟨.int g.n, .dat⟩ := rfl
  have hit := e_it (e_fn (S := slY u K (some (.own (.lst [.int g.n]))) none none none) (r := r) (n := 4) (F := F) (e_cons (e_bin (f := fIx) (e_varO (i := 3) rfl) e_cst hx) (e_cons (e_var (i := 0) rfl) (e_cons (e_var (i := 1) rfl) (e_cons (e_var (i := 2) rfl) e_nil)))) rfl rfl ht rfl) (L := (List.range (K + 1)).map (tbD g u)) rfl
  have hgo := mLcGo_all (t := .one 5) (me := mCall (f1 gTuple) (mCons (mLc (.one 6) [6] (mIt (mCall gSortA (mCons (mVar 5) mNil))) mYes (mBin fIx (mVar 5) (mVar 6))) mNil)) (slw := slY u K (some (.own (.lst [.int g.n]))) none none none) (r := r) (tbD g u) (rowD g u) (L := List.range (K + 1)) (by rw [List.length_range]; have : lim = 1000000 := rfl; omega) (fun k hk => ⟨slY u K (some (.own (.lst [.int g.n]))) none (some (.dat (tbD g u k))) none, .dat, by decide, rfl, inner_ok ok⟩)
  have hw : wipeS (slY u K (some (.own (.lst [.int g.n]))) none none none) [5] = slY u K (some (.own (.lst [.int g.n]))) none none none := rfl
  exact e_ret (e_call (f := f1 gTuple) (e_cons (e_lc hit hw hgo) e_nil) rfl) rfl
theorem worths_all {F0 F1 F2 F3 : MF} (ok : GpOk g) {K : Nat} (h8 : K ≤ 8) {d : D} {r : Rw} (h0 : ∀ (m : Nat) r, 1 ≤ m → m ≤ 6 → F0 [.int m, u.lk] r = some (⟨.bl (decide (m = g.n)), .dat⟩, r)) (h1 : F1 [.int g.n, u.ps] r = some (⟨d, .dat⟩, r)) (h2 : F2 [.int K, .int 1, .int 8] r = some (⟨.bl true, .dat⟩, r)) (ht : F3 [.int g.n, u.lk, u.ps, .int K] r = some (⟨.lst (tbsD g u K), .new⟩, r)) :
    (mSeq (mAsg 3 (mLc (.one 4) [4] (mRng2 (mCons (mCst (.int 1)) (mCons (mBin fAdd (mCst (.int 6)) (mCst (.int 1))) mNil))) (mTb (mFn 2 F0 (mCons (mVar 4) (mCons (mVar 0) mNil)))) (mVar 4)))
 (mSeq (mIfS (mTNot (mTr (mVar 3)))
 mNever
 mNext)
 (mSeq (mDrop (mFn 2 F1 (mCons (mBin fIx (mVar 3) (mCst (.int 0))) (mCons (mVar 1) mNil))))
 (mSeq (mIfS (mTNot (mTb (mFn 3 F2 (mCons (mVar 2) (mCons (mCst (.int 1)) (mCons (mCst (.int 8)) mNil))))))
 mNever
 mNext)
 (mRet (mCall (f1 gTuple) (mCons (mLc (.one 5) [5] (mIt (mFn 4 F3 (mCons (mBin fIx (mVar 3) (mCst (.int 0))) (mCons (mVar 0) (mCons (mVar 1) (mCons (mVar 2) mNil)))))) mYes (mCall (f1 gTuple) (mCons (mLc (.one 6) [6] (mIt (mCall gSortA (mCons (mVar 5) mNil))) mYes (mBin fIx (mVar 5) (mVar 6))) mNil))) mNil))))))) ⟨slY u K none none none none, r⟩ = some (.rt ⟨.tup ((List.range (K + 1)).map (rowD g u)), .dat⟩, r) :=
  (mSeq_nx (sizes_ok ok.n3 h0)).trans ((worths_mid h1 h2).trans (worths_last ok h8 ht))
theorem stay_worths_ok (ok : GpOk g) (nu : NuOk g u) {K : Nat} (h1 : 1 ≤ K) (h8 : K ≤ 8) (r : Rw) : f_stay_worths [u.lk, u.ps, .int K] r = some (⟨.tup ((List.range (K + 1)).map (rowD g u)), .dat⟩, r) := by
  have hi := isin_ok (K : Int) 1 8 r
  have e : (decide ((1 : Int) ≤ K) && decide ((K : Int) ≤ 8)) = true := by
    rw [Bool.and_eq_true]
    exact ⟨decide_eq_true (by omega), decide_eq_true (by omega)⟩
  rw [e] at hi
  exact mBody_rt (sl := slY u K none none none none) rfl (worths_eq ▸ worths_all ok h8 nu.liks (nu.needp r) hi (tables_ok ok nu h8 r))
end
end GD
/-! Kp -/
set_option maxHeartbeats 4000000
/-! Kp: the law's rows. -/
namespace GD
open PySem L2
def allw (g : Gp) : Nat → List (List Nat)
  | 0 => [[]]
  | k + 1 => (allw g k).flatMap fun w => (List.range g.S).map fun j => w ++ [j]
theorem allw_mem {g : Gp} : ∀ {k : Nat} {w : List Nat}, w ∈ allw g k ↔ valid g w ∧ w.length = k
  | 0, w => by
    simp only [allw, List.mem_singleton]
    constructor
    · rintro rfl
      exact ⟨fun j hj => (nomatch hj), rfl⟩
    · rintro ⟨_, h⟩
      exact List.length_eq_zero_iff.mp h
  | k + 1, w => by
    simp only [allw, List.mem_flatMap, List.mem_map, List.mem_range]
    constructor
    · rintro ⟨w', h1, j, h2, rfl⟩
      obtain ⟨h3, h4⟩ := allw_mem.mp h1
      exact ⟨valid_snoc h3 h2, by simp [h4]⟩
    · rintro ⟨h1, h2⟩
      rcases List.eq_nil_or_concat w with rfl | ⟨w', j, e⟩
      · simp at h2
      · rw [List.concat_eq_append] at e
        subst e
        exact ⟨w', allw_mem.mpr ⟨fun m hm => h1 m (List.mem_append_left _ hm), by simpa using h2⟩, j, h1 j (by simp), rfl⟩
theorem flatMap_len {α β : Type} {f : α → List β} {n : Nat} : ∀ {L : List α}, (∀ a ∈ L, (f a).length = n) → (L.flatMap f).length = L.length * n
  | [], _ => by simp
  | a :: L, h => by
    have h1 := h a List.mem_cons_self
    have h2 := flatMap_len (L := L) fun b hb => h b (List.mem_cons_of_mem _ hb)
    rw [List.flatMap_cons, List.length_append, h1, h2, List.length_cons, Nat.succ_mul]
    omega
theorem allw_len {g : Gp} : ∀ k : Nat, (allw g k).length = g.S ^ k
  | 0 => rfl
  | k + 1 => by
    rw [allw, flatMap_len (n := g.S) (fun w _ => by simp), allw_len k, Nat.pow_succ]
section
variable {g : Gp} {u : Nu} {s : Nat}
def rD (g : Gp) (u : Nu) (s : Nat) (w : List Nat) : D := .tup [wdD g w, g.gs (wk g s w), .int (tot g u s w)]
abbrev rsD (g : Gp) (u : Nu) (s : Nat) (l : List (List Nat)) : D := .lst (l.map (rD g u s))
def slZ (g : Gp) (u : Nu) (s K : Nat) (a6 a7 a8 a9 a10 : Option SV) (t : Sl) : Sl := some (.dat (g.gs s)) :: some (.dat u.lk) :: some (.dat u.ps) :: some (.dat (.dT (tabL g u))) :: some (.dat (.int K)) :: some (.dat .row) :: a6 :: a7 :: a8 :: a9 :: a10 :: t
abbrev syStep (F1 F2 : MF) : MSt := (mSeq (mAsg 15 (mFn 2 F1 (mCons (mVar 12) (mCons (mVar 14) mNil))))
 (mApp 10 (mTup (mCons (mBin fAdd (mVar 11) (mTup (mCons (mVar 14) mNil))) (mCons (mVar 15) (mCons (mBin fSub (mBin fAdd (mVar 13) (mFn 2 F2 (mCons (mVar 15) (mCons (mVar 1) mNil)))) (mBin fIx (mVar 3) (mVar 14))) mNil))))))
theorem cat_wd {w : List Nat} {j : Nat} (h : w.length < 1000) : fAdd (wdD g w) (.tup [g.st j]) = some ⟨wdD g (w ++ [j]), .dat⟩ := by
  have e : fAdd (wdD g w) (.tup [g.st j]) = if (w.map g.st).length + [g.st j].length ≤ lim then some ⟨.tup (w.map g.st ++ [g.st j]), .dat⟩ else none := rfl
  have hl : (w.map g.st).length + [g.st j].length ≤ lim := by
    have : lim = 1000000 := rfl
    rw [List.length_map, List.length_singleton]; omega
  rw [e, if_pos hl]
  unfold wdD
  rw [List.map_append]; rfl
theorem sy_step {F1 F2 : MF} (ok : GpOk g) (nu : NuOk g u) (hs : s < g.B) (h1 : ∀ i j r, i < g.B → j < g.S → F1 [g.gs i, g.st j] r = some (⟨g.gs (g.nx i j), .dat⟩, r)) (h2 : ∀ i r, i < g.B → F2 [g.gs i, u.lk] r = some (⟨.int (u.W i), .dat⟩, r))
    {K j : Nat} {w : List Nat} {more : List (List Nat)} {a6 a7 a8 a9 a15 : Option SV} {t : Sl} {r : Rw} (hv : valid g w) (hj : j < g.S) (hw : w.length < 1000) (hl : more.length < 1000000) :
    syStep F1 F2 ⟨slZ g u s K a6 a7 a8 a9 (some (.own (rsD g u s more))) (some (.dat (wdD g w)) :: some (.dat (g.gs (wk g s w))) :: some (.dat (.int (tot g u s w))) :: some (.dat (g.st j)) :: a15 :: t), r⟩
      = some (.nx (slZ g u s K a6 a7 a8 a9 (some (.own (rsD g u s (more ++ [w ++ [j]])))) (some (.dat (wdD g w)) :: some (.dat (g.gs (wk g s w))) :: some (.dat (.int (tot g u s w))) :: some (.dat (g.st j)) :: some (.dat (g.gs (g.nx (wk g s w) j))) :: t)), r) := by
  have hi := wk_lt ok hs hv
  have ht := ok.nxlt _ j hi hj
  have e1 := h1 _ j r hi hj
  have e2 := h2 _ r ht
  have e3 := fIx_tabL (u := u) ok hj
  have s1 : mAsg 15 (mFn 2 F1 (mCons (mVar 12) (mCons (mVar 14) mNil))) ⟨slZ g u s K a6 a7 a8 a9 (some (.own (rsD g u s more))) (some (.dat (wdD g w)) :: some (.dat (g.gs (wk g s w))) :: some (.dat (.int (tot g u s w))) :: some (.dat (g.st j)) :: a15 :: t), r⟩ = some (.nx (slZ g u s K a6 a7 a8 a9 (some (.own (rsD g u s more))) (some (.dat (wdD g w)) :: some (.dat (g.gs (wk g s w))) :: some (.dat (.int (tot g u s w))) :: some (.dat (g.st j)) :: some (.dat (g.gs (g.nx (wk g s w) j))) :: t)), r) := by
    simp [mAsg, mFn, mCons, mNil, mVar, slZ, noBor_nil, noBor_cons, noBorK, kept, e1]
  refine (mSeq_nx s1).trans ?_
  generalize hS : slZ g u s K a6 a7 a8 a9 (some (.own (rsD g u s more))) (some (.dat (wdD g w)) :: some (.dat (g.gs (wk g s w))) :: some (.dat (.int (tot g u s w))) :: some (.dat (g.st j)) :: some (.dat (g.gs (g.nx (wk g s w) j))) :: t) = S
  have v11 : mVar 11 ⟨S, r⟩ = some (⟨wdD g w, .dat⟩, r) := by rw [← hS]; rfl
  have v14 : mVar 14 ⟨S, r⟩ = some (⟨g.st j, .dat⟩, r) := by rw [← hS]; rfl
  have v15 : mVar 15 ⟨S, r⟩ = some (⟨g.gs (g.nx (wk g s w) j), .dat⟩, r) := by rw [← hS]; rfl
  have v13 : mVar 13 ⟨S, r⟩ = some (⟨.int (tot g u s w), .dat⟩, r) := by rw [← hS]; rfl
  have v1 : mVar 1 ⟨S, r⟩ = some (⟨u.lk, .dat⟩, r) := by rw [← hS]; rfl
  have v3 : mVar 3 ⟨S, r⟩ = some (⟨.dT (tabL g u), .dat⟩, r) := by rw [← hS]; rfl
  have a1 : fAdd (.int (tot g u s w)) (.int (u.W (g.nx (wk g s w) j))) = some ⟨.int (tot g u s w + u.W (g.nx (wk g s w) j)), .dat⟩ := rfl
  have a2 : fSub (.int (tot g u s w + u.W (g.nx (wk g s w) j))) (.int (u.pr j)) = some ⟨.int (tot g u s (w ++ [j])), .dat⟩ := by
    have e : fSub (.int (tot g u s w + u.W (g.nx (wk g s w) j))) (.int (u.pr j)) = some ⟨.int (tot g u s w + u.W (g.nx (wk g s w) j) - u.pr j), .dat⟩ := rfl
    have e' : tot g u s w + u.W (g.nx (wk g s w) j) - u.pr j = tot g u s (w ++ [j]) := by rw [tot_snoc]; omega
    rw [e, e']
  have m1 := e_tup (e_cons v14 (e_nil (S := S) (r := r))) rfl (by simp [lim])
  have m2 := e_bin (f := fAdd) v11 m1 (cat_wd hw)
  have m3 := e_fn (n := 2) (F := F2) (e_cons v15 (e_cons v1 (e_nil (S := S) (r := r)))) rfl rfl e2 rfl
  have m6 := e_bin (f := fSub) (e_bin (f := fAdd) v13 m3 a1) (e_bin (f := fIx) v3 v14 e3) a2
  have m7 := e_tup (e_cons m2 (e_cons v15 (e_cons m6 (e_nil (S := S) (r := r))))) rfl (by simp [lim])
  have hwk : g.nx (wk g s w) j = wk g s (w ++ [j]) := wk_snoc.symm
  have o10 : ownAt 10 S = some (rsD g u s more) := by rw [← hS]; rfl
  have hl2 : (more.map (rD g u s)).length < lim := by rw [List.length_map]; exact hl
  refine (e_app m7 rfl o10 hl2).trans ?_
  have ed : D.tup [wdD g (w ++ [j]), g.gs (g.nx (wk g s w) j), .int (tot g u s (w ++ [j]))] = rD g u s (w ++ [j]) := by unfold rD; rw [← hwk]
  have e : more.map (rD g u s) ++ [rD g u s (w ++ [j])] = (more ++ [w ++ [j]]).map (rD g u s) := by rw [List.map_append]; rfl
  show some (Fl.nx (S.set 10 (some (.own (.lst (more.map (rD g u s) ++ [D.tup [wdD g (w ++ [j]), g.gs (g.nx (wk g s w) j), .int (tot g u s (w ++ [j]))]]))))), r) = _
  rw [ed, e, ← hS]; rfl
/-- one row, all steps -/
theorem sy_inner {F1 F2 : MF} (ok : GpOk g) (nu : NuOk g u) (hs : s < g.B) (h1 : ∀ i j r, i < g.B → j < g.S → F1 [g.gs i, g.st j] r = some (⟨g.gs (g.nx i j), .dat⟩, r)) (h2 : ∀ i r, i < g.B → F2 [g.gs i, u.lk] r = some (⟨.int (u.W i), .dat⟩, r))
    {K : Nat} {w : List Nat} {more : List (List Nat)} {a6 a7 a8 a9 a14 a15 : Option SV} {t : Sl} {r : Rw} (ha7 : isD a7 (stD g)) (hv : valid g w) (hw : w.length < 1000) (hl : more.length + 6 < 1000000) :
    ∃ c14 c15, (mFrz 7 (mForS (.one 14) (mIt (mVar 7)) (syStep F1 F2))) ⟨slZ g u s K a6 a7 a8 a9 (some (.own (rsD g u s more))) (some (.dat (wdD g w)) :: some (.dat (g.gs (wk g s w))) :: some (.dat (.int (tot g u s w))) :: a14 :: a15 :: t), r⟩
      = some (.nx (slZ g u s K a6 (some (.dat (stD g))) a8 a9 (some (.own (rsD g u s (more ++ (List.range g.S).map fun j => w ++ [j])))) (some (.dat (wdD g w)) :: some (.dat (g.gs (wk g s w))) :: some (.dat (.int (tot g u s w))) :: c14 :: c15 :: t)), r) := by
  obtain ⟨sl', w1, c14, c15, rfl⟩ := mFor_rel (t := .one 14) (body := syStep F1 F2) (r := r) g.st
    (fun Q sl => ∃ c14 c15, sl = slZ g u s K a6 (some (.dat (stD g))) a8 a9 (some (.own (rsD g u s (more ++ Q.map fun j => w ++ [j])))) (some (.dat (wdD g w)) :: some (.dat (g.gs (wk g s w))) :: some (.dat (.int (tot g u s w))) :: c14 :: c15 :: t))
    (List.range g.S) (List.range g.S) [] (slZ g u s K a6 (some (.dat (stD g))) a8 a9 (some (.own (rsD g u s more))) (some (.dat (wdD g w)) :: some (.dat (g.gs (wk g s w))) :: some (.dat (.int (tot g u s w))) :: a14 :: a15 :: t)) rfl
    (fun Q j rest sl hp ⟨d14, d15, e⟩ => by
      subst e
      have hj : j < g.S := List.mem_range.mp (by rw [← hp]; simp)
      have hQ : Q.length ≤ g.S := by
        have : Q.length ≤ (List.range g.S).length := by rw [← hp]; simp
        rwa [List.length_range] at this
      have h6 := ok.s6
      have st := sy_step (K := K) (more := more ++ Q.map fun j => w ++ [j]) (a6 := a6) (a7 := some (.dat (stD g))) (a8 := a8) (a9 := a9) (a15 := d15) (t := t) (r := r) ok nu hs h1 h2 hv hj hw (by rw [List.length_append, List.length_map]; omega)
      refine ⟨_, _, rfl, st, some (.dat (g.st j)), some (.dat (g.gs (g.nx (wk g s w) j))), ?_⟩
      rw [List.map_append, List.append_assoc]; rfl)
    ⟨a14, a15, by simp⟩
  refine ⟨c14, c15, ?_⟩
  unfold mFrz
  simp only
  have e : frz 7 (slZ g u s K a6 a7 a8 a9 (some (.own (rsD g u s more))) (some (.dat (wdD g w)) :: some (.dat (g.gs (wk g s w))) :: some (.dat (.int (tot g u s w))) :: a14 :: a15 :: t)) = slZ g u s K a6 (some (.dat (stD g))) a8 a9 (some (.own (rsD g u s more))) (some (.dat (wdD g w)) :: some (.dat (g.gs (wk g s w))) :: some (.dat (.int (tot g u s w))) :: a14 :: a15 :: t) := by
    rcases ha7 with rfl | rfl <;> rfl
  rw [e]
  exact (mForS_eq (L := (List.range g.S).map g.st) (e_it (e_var rfl) rfl)).trans w1
/-- one turn -/
theorem sy_mid {F1 F2 : MF} (ok : GpOk g) (nu : NuOk g u) (hs : s < g.B) (h1 : ∀ i j r, i < g.B → j < g.S → F1 [g.gs i, g.st j] r = some (⟨g.gs (g.nx i j), .dat⟩, r)) (h2 : ∀ i r, i < g.B → F2 [g.gs i, u.lk] r = some (⟨.int (u.W i), .dat⟩, r))
    {K k : Nat} (hk : k ≤ 1) {a6 a7 a8 a9 a10 a11 a12 a13 a14 a15 : Option SV} {t : Sl} {r : Rw} (ha7 : isD a7 (stD g)) (ha8 : isD a8 (rsD g u s (allw g k))) :
    ∃ c7 c8 c10 c11 c12 c13 c14 c15, (mSeq (mAsg 10 (mLst mNil)) (mSeq (mFrz 8 (mForS (.many [11, 12, 13]) (mIt (mVar 8)) (mFrz 7 (mForS (.one 14) (mIt (mVar 7)) (syStep F1 F2))))) (mFrz 10 (mAsg 8 (mVar 10))))) ⟨slZ g u s K a6 a7 a8 a9 a10 (a11 :: a12 :: a13 :: a14 :: a15 :: t), r⟩
      = some (.nx (slZ g u s K a6 c7 c8 a9 c10 (c11 :: c12 :: c13 :: c14 :: c15 :: t)), r) ∧ isD c7 (stD g) ∧ isD c8 (rsD g u s (allw g (k + 1))) := by
  have s1 : mAsg 10 (mLst mNil) ⟨slZ g u s K a6 a7 a8 a9 a10 (a11 :: a12 :: a13 :: a14 :: a15 :: t), r⟩ = some (.nx (slZ g u s K a6 a7 a8 a9 (some (.own (rsD g u s []))) (a11 :: a12 :: a13 :: a14 :: a15 :: t)), r) := by
    simp [mAsg, mLst, mNil, slZ, noBor_nil, kept, lim]
  have hlen : (allw g k).length ≤ 6 := by
    rw [allw_len]
    have h6 := ok.s6
    have hk : k = 0 ∨ k = 1 := by omega
    rcases hk with rfl | rfl
    · simp
    · simpa using h6
  obtain ⟨sl', w1, c7, c11, c12, c13, c14, c15, rfl, w2⟩ := mFor_rel (t := .many [11, 12, 13]) (body := (mFrz 7 (mForS (.one 14) (mIt (mVar 7)) (syStep F1 F2)))) (r := r) (rD g u s)
    (fun Q sl => ∃ c7 c11 c12 c13 c14 c15, sl = slZ g u s K a6 c7 (some (.dat (rsD g u s (allw g k)))) a9 (some (.own (rsD g u s (Q.flatMap fun w => (List.range g.S).map fun j => w ++ [j])))) (c11 :: c12 :: c13 :: c14 :: c15 :: t) ∧ isD c7 (stD g))
    (allw g k) (allw g k) [] (slZ g u s K a6 a7 (some (.dat (rsD g u s (allw g k)))) a9 (some (.own (rsD g u s []))) (a11 :: a12 :: a13 :: a14 :: a15 :: t)) rfl
    (fun Q w rest sl hp ⟨d7, d11, d12, d13, d14, d15, e, hd7⟩ => by
      subst e
      have hw : w ∈ allw g k := by rw [← hp]; simp
      obtain ⟨hv, hwl⟩ := allw_mem.mp hw
      have hQ : Q.length ≤ 6 := by
        have : Q.length ≤ (allw g k).length := by rw [← hp]; simp
        omega
      have hm : (Q.flatMap fun w => (List.range g.S).map fun j => w ++ [j]).length ≤ 36 := by
        rw [flatMap_len (n := g.S) (fun w _ => by simp)]
        exact Nat.mul_le_mul hQ ok.s6
      obtain ⟨c14, c15, st⟩ := sy_inner (K := K) (w := w) (more := Q.flatMap fun w => (List.range g.S).map fun j => w ++ [j]) (a6 := a6) (a7 := d7) (a8 := some (.dat (rsD g u s (allw g k)))) (a9 := a9) (a14 := d14) (a15 := d15) (t := t) (r := r) ok nu hs h1 h2 hd7 hv (by omega) (by omega)
      refine ⟨_, _, rfl, st, some (.dat (stD g)), some (.dat (wdD g w)), some (.dat (g.gs (wk g s w))), some (.dat (.int (tot g u s w))), c14, c15, ?_, .inl rfl⟩
      rw [List.flatMap_append]; simp)
    ⟨a7, a11, a12, a13, a14, a15, rfl, ha7⟩
  have s2 : (mFrz 8 (mForS (.many [11, 12, 13]) (mIt (mVar 8)) (mFrz 7 (mForS (.one 14) (mIt (mVar 7)) (syStep F1 F2))))) ⟨slZ g u s K a6 a7 a8 a9 (some (.own (rsD g u s []))) (a11 :: a12 :: a13 :: a14 :: a15 :: t), r⟩ = some (.nx (slZ g u s K a6 c7 (some (.dat (rsD g u s (allw g k)))) a9 (some (.own (rsD g u s (allw g (k + 1))))) (c11 :: c12 :: c13 :: c14 :: c15 :: t)), r) := by
    unfold mFrz
    simp only
    have e : frz 8 (slZ g u s K a6 a7 a8 a9 (some (.own (rsD g u s []))) (a11 :: a12 :: a13 :: a14 :: a15 :: t)) = slZ g u s K a6 a7 (some (.dat (rsD g u s (allw g k)))) a9 (some (.own (rsD g u s []))) (a11 :: a12 :: a13 :: a14 :: a15 :: t) := by
      rcases ha8 with rfl | rfl <;> rfl
    rw [e]
    exact (mForS_eq (L := (allw g k).map (rD g u s)) (e_it (e_var rfl) rfl)).trans w1
  have s3 : (mFrz 10 (mAsg 8 (mVar 10))) ⟨slZ g u s K a6 c7 (some (.dat (rsD g u s (allw g k)))) a9 (some (.own (rsD g u s (allw g (k + 1))))) (c11 :: c12 :: c13 :: c14 :: c15 :: t), r⟩ = some (.nx (slZ g u s K a6 c7 (some (.dat (rsD g u s (allw g (k + 1))))) a9 (some (.dat (rsD g u s (allw g (k + 1))))) (c11 :: c12 :: c13 :: c14 :: c15 :: t)), r) := by
    simp [mFrz, frz, mAsg, mVar, slZ, kept]
  exact ⟨c7, _, _, c11, c12, c13, c14, c15, (mSeq_nx s1).trans ((mSeq_nx s2).trans s3), w2, .inl rfl⟩
/-- all rows -/
theorem sy_rows {F1 F2 : MF} (ok : GpOk g) (nu : NuOk g u) (hs : s < g.B) (h1 : ∀ i j r, i < g.B → j < g.S → F1 [g.gs i, g.st j] r = some (⟨g.gs (g.nx i j), .dat⟩, r)) (h2 : ∀ i r, i < g.B → F2 [g.gs i, u.lk] r = some (⟨.int (u.W i), .dat⟩, r))
    {K : Nat} (hK : K ≤ 2) {a6 a7 a8 a9 a10 a11 a12 a13 a14 a15 : Option SV} {t : Sl} {r : Rw} (ha7 : isD a7 (stD g)) (ha8 : isD a8 (rsD g u s [[]])) :
    ∃ c7 c8 c9 c10 c11 c12 c13 c14 c15, (mForS (.one 9) (mRng1 (mCons (mVar 4) mNil)) (mSeq (mAsg 10 (mLst mNil)) (mSeq (mFrz 8 (mForS (.many [11, 12, 13]) (mIt (mVar 8)) (mFrz 7 (mForS (.one 14) (mIt (mVar 7)) (syStep F1 F2))))) (mFrz 10 (mAsg 8 (mVar 10)))))) ⟨slZ g u s K a6 a7 a8 a9 a10 (a11 :: a12 :: a13 :: a14 :: a15 :: t), r⟩
      = some (.nx (slZ g u s K a6 c7 c8 c9 c10 (c11 :: c12 :: c13 :: c14 :: c15 :: t)), r) ∧ isD c7 (stD g) ∧ isD c8 (rsD g u s (allw g K)) := by
  obtain ⟨sl', w1, c7, c8, c9, c10, c11, c12, c13, c14, c15, rfl, w2, w3⟩ := mFor_rel (t := .one 9) (body := (mSeq (mAsg 10 (mLst mNil)) (mSeq (mFrz 8 (mForS (.many [11, 12, 13]) (mIt (mVar 8)) (mFrz 7 (mForS (.one 14) (mIt (mVar 7)) (syStep F1 F2))))) (mFrz 10 (mAsg 8 (mVar 10)))))) (r := r) (fun (i : Nat) => D.int (0 + (i : Nat)))
    (fun Q sl => ∃ c7 c8 c9 c10 c11 c12 c13 c14 c15, sl = slZ g u s K a6 c7 c8 c9 c10 (c11 :: c12 :: c13 :: c14 :: c15 :: t) ∧ isD c7 (stD g) ∧ isD c8 (rsD g u s (allw g Q.length)))
    (List.range K) (List.range K) [] (slZ g u s K a6 a7 a8 a9 a10 (a11 :: a12 :: a13 :: a14 :: a15 :: t)) rfl
    (fun Q i rest sl hp ⟨d7, d8, d9, d10, d11, d12, d13, d14, d15, e, hd7, hd8⟩ => by
      subst e
      obtain ⟨rfl, hi⟩ := range_split hp
      obtain ⟨c7, c8, c10, c11, c12, c13, c14, c15, st, q1, q2⟩ := sy_mid (K := K) (k := Q.length) (a6 := a6) (a7 := d7) (a8 := d8) (a9 := some (.dat (.int (0 + (Q.length : Nat))))) (a10 := d10) (a11 := d11) (a12 := d12) (a13 := d13) (a14 := d14) (a15 := d15) (t := t) (r := r) ok nu hs h1 h2 (by omega) hd7 hd8
      refine ⟨_, _, rfl, st, c7, c8, some (.dat (.int (0 + (Q.length : Nat)))), c10, c11, c12, c13, c14, c15, rfl, q1, ?_⟩
      rw [List.length_append, List.length_singleton]
      exact q2)
    ⟨a7, a8, a9, a10, a11, a12, a13, a14, a15, rfl, ha7, ha8⟩
  rw [List.length_range] at w3
  have hit := mRng1_var (sl := slZ g u s K a6 a7 a8 a9 a10 (a11 :: a12 :: a13 :: a14 :: a15 :: t)) (i := 4) (K := K) (r := r) rfl (by omega)
  exact ⟨c7, c8, c9, c10, c11, c12, c13, c14, c15, (mForS_eq hit).trans w1, w2, w3⟩
end
end GD
/-! Kq -/
set_option maxHeartbeats 4000000
/-! Kq: draws. -/
namespace GD
open PySem L2
section
variable {S : Sl} {r r1 : Rw} {A : ME} {v : Int} {k : Kd}
theorem e_row1 (h : S[0]? = some (some (.dat .row))) : mRowIx (mVar 0) (mCst (.int 1)) ⟨S, r⟩ = some (⟨.int r.i, .dat⟩, r) := by
  unfold mRowIx; simp only; rw [e_var h, Option.bind_some]; rfl
theorem e_row2 (h : S[0]? = some (some (.dat .row))) : mRowIx (mVar 0) (mCst (.int 2)) ⟨S, r⟩ = some (⟨.int r.s, .dat⟩, r) := by
  unfold mRowIx; simp only; rw [e_var h, Option.bind_some]; rfl
theorem e_row3 (h : S[0]? = some (some (.dat .row))) : mRowIx (mVar 0) (mCst (.int 3)) ⟨S, r⟩ = some (⟨.int r.r, .dat⟩, r) := by
  unfold mRowIx; simp only; rw [e_var h, Option.bind_some]; rfl
theorem e_set1 (h : S[0]? = some (some (.dat .row))) (hA : A ⟨S, r⟩ = some (⟨.int v, k⟩, r1)) : mRowSet 0 (mCst (.int 1)) A ⟨S, r⟩ = some (.nx S, ⟨v, r1.s, r1.r⟩) := by
  unfold mRowSet; simp only; rw [hA, Option.bind_some]; simp only; rw [e_cst, Option.bind_some]; simp only; rw [h]; rfl
theorem e_set2 (h : S[0]? = some (some (.dat .row))) (hA : A ⟨S, r⟩ = some (⟨.int v, k⟩, r1)) : mRowSet 0 (mCst (.int 2)) A ⟨S, r⟩ = some (.nx S, ⟨r1.i, v, r1.r⟩) := by
  unfold mRowSet; simp only; rw [hA, Option.bind_some]; simp only; rw [e_cst, Option.bind_some]; simp only; rw [h]; rfl
theorem e_set3 (h : S[0]? = some (some (.dat .row))) (hA : A ⟨S, r⟩ = some (⟨.int v, k⟩, r1)) : mRowSet 0 (mCst (.int 3)) A ⟨S, r⟩ = some (.nx S, ⟨r1.i, r1.s, v⟩) := by
  unfold mRowSet; simp only; rw [hA, Option.bind_some]; simp only; rw [e_cst, Option.bind_some]; simp only; rw [h]; rfl
end
theorem fMod_pos {x m : Int} (h : 0 < m) : fMod (.int x) (.int m) = some ⟨.int (x % m), .dat⟩ := by
  have e : fMod (.int x) (.int m) = if decide (0 < m) = true then some (evI (x % m)) else none := rfl
  rw [e, if_pos (decide_eq_true h)]; rfl
theorem fDiv_pos {x m : Int} (h : 0 < m) (h2 : m < 1073741824) : fDiv (.int x) (.int m) = some ⟨.int (x / m), .dat⟩ := by
  have e : fDiv (.int x) (.int m) = if decide (0 < m ∧ m < 1073741824) = true then some (evI (x / m)) else none := rfl
  rw [e, if_pos (decide_eq_true ⟨h, h2⟩)]; rfl
theorem fGt_int (a b : Int) : fGt (.int a) (.int b) = some ⟨.bl (decide (b < a)), .dat⟩ := rfl
theorem fGe_int (a b : Int) : fGe (.int a) (.int b) = some ⟨.bl (decide (b ≤ a)), .dat⟩ := rfl
theorem fMul_c (x : Int) : fMul (.int x) (.int 48271) = some ⟨.int (x * 48271), .dat⟩ := by
  have e : fMul (.int x) (.int 48271) = (if decide (-(2 ^ 64) < (48271 : Int) ∧ (48271 : Int) < 2 ^ 64) = true then some (evI (x * 48271)) else none).or (fRepT (.int x) (.int 48271)) := rfl
  rw [e, if_pos (by decide +kernel)]; rfl
theorem fAdd_int (a b : Int) : fAdd (.int a) (.int b) = some ⟨.int (a + b), .dat⟩ := rfl
theorem fSub_int (a b : Int) : fSub (.int a) (.int b) = some ⟨.int (a - b), .dat⟩ := rfl
theorem taken_eq (ns : List Int) : m__law_taken ns = (mSeq (mIfS (mTb (mBin fGt (mRowIx (mVar 0) (mCst (.int 3))) (mCst (.int 0))))
 (mSeq (mAsg 2 (mBin fMod (mCall (f1 gInt) (mCons (mRowIx (mVar 0) (mCst (.int 3))) mNil)) (mVar 1)))
 (mSeq (mRowSet 0 (mCst (.int 3)) (mBin fDiv (mRowIx (mVar 0) (mCst (.int 3))) (mVar 1)))
 (mRetVar 2)))
 mNext)
 (mSeq (mRowSet 0 (mCst (.int 1)) (mBin fAdd (mRowIx (mVar 0) (mCst (.int 1))) (mCst (.int 1))))
 (mSeq (mIfS (mTb (mBin fGt (mRowIx (mVar 0) (mCst (.int 1))) (mScLen ns (mVar 0) (mCst (.int 0)))))
 (mSeq (mRowSet 0 (mCst (.int 2)) (mBin fMod (mCall (f1 gInt) (mCons (mBin fAdd (mBin fMul (mRowIx (mVar 0) (mCst (.int 2))) (mCst (.int 48271))) (mCst (.int 11))) mNil)) (mCst (.int 2147483647))))
 (mRet (mBin fMod (mCall (f1 gInt) (mCons (mBin fDiv (mRowIx (mVar 0) (mCst (.int 2))) (mCst (.int 7))) mNil)) (mVar 1))))
 mNext)
 (mSeq (mAsg 3 (mScAt ns (mVar 0) (mCst (.int 0)) (mBin fSub (mRowIx (mVar 0) (mCst (.int 1))) (mCst (.int 1)))))
 (mSeq (mRowSet 0 (mCst (.int 2)) (mBin fMod (mCall (f1 gInt) (mCons (mBin fAdd (mBin fAdd (mBin fMul (mRowIx (mVar 0) (mCst (.int 2))) (mCst (.int 48271))) (mVar 3)) (mCst (.int 11))) mNil)) (mCst (.int 2147483647))))
 (mSeq (mIfS (mTb (mBin fGe (mVar 3) (mBin fPow (mCst (.int 10)) (mCst (.int 18)))))
 (mRowSet 0 (mCst (.int 3)) (mBin fDiv (mVar 3) (mVar 1)))
 mNext)
 (mRet (mBin fMod (mCall (f1 gInt) (mCons (mVar 3) mNil)) (mVar 1))))))))) := rfl
theorem taken_ok (ns : List Int) {m : Int} (h1 : 0 < m) (h2 : m < 1073741824) {r : Rw} (hr : 0 ≤ r.i) : ∃ v r', f__law_taken ns [.row, .int m] r = some (⟨.int v, .dat⟩, r') ∧ 0 ≤ v ∧ v < m ∧ 0 ≤ r'.i := by
  have hm : ∀ x : Int, 0 ≤ x % m ∧ x % m < m := fun x => ⟨Int.emod_nonneg _ (by omega), Int.emod_lt_of_pos _ h1⟩
  have st : ∀ v r', m__law_taken ns ⟨[some (.dat .row), some (.dat (.int m)), none, none], r⟩ = some (.rt ⟨.int v, .dat⟩, r') → f__law_taken ns [.row, .int m] r = some (⟨.int v, .dat⟩, r') := fun v r' h => mBody_rt (sl := [some (.dat .row), some (.dat (.int m)), none, none]) rfl h
  have c0 : ∀ (a2 a3 : Option SV), ([some (.dat .row), some (.dat (.int m)), a2, a3] : Sl)[0]? = some (some (.dat .row)) := fun _ _ => rfl
  have v1 : ∀ (a2 a3 : Option SV) (r : Rw), mVar 1 ⟨[some (.dat .row), some (.dat (.int m)), a2, a3], r⟩ = some (⟨.int m, .dat⟩, r) := fun _ _ _ => rfl
  by_cases h3 : 0 < r.r
  · refine ⟨r.r % m, ⟨r.i, r.s, r.r / m⟩, st _ _ ?_, (hm _).1, (hm _).2, hr⟩
    rw [taken_eq]
    have t : mTb (mBin fGt (mRowIx (mVar 0) (mCst (.int 3))) (mCst (.int 0))) ⟨[some (.dat .row), some (.dat (.int m)), none, none], r⟩ = some (true, r) := by
      have := e_tb (e_bin (f := fGt) (e_row3 (r := r) (c0 none none)) e_cst (fGt_int r.r 0))
      rw [decide_eq_true h3] at this
      exact this
    refine mSeq_if1 t ?_
    have s1 := e_asg (i := 2) (e_bin (f := fMod) (e_call (f := f1 gInt) (e_cons (e_row3 (r := r) (c0 none none)) e_nil) rfl) (v1 none none r) (fMod_pos (x := r.r) h1)) rfl
    have s2 := e_set3 (r := r) (c0 (some (.dat (.int (r.r % m)))) none) (e_bin (f := fDiv) (e_row3 (c0 (some (.dat (.int (r.r % m)))) none)) (v1 (some (.dat (.int (r.r % m)))) none r) (fDiv_pos (x := r.r) h1 h2))
    exact (mSeq_nx s1).trans ((mSeq_nx s2).trans (ret_dat rfl))
  · have t : mTb (mBin fGt (mRowIx (mVar 0) (mCst (.int 3))) (mCst (.int 0))) ⟨[some (.dat .row), some (.dat (.int m)), none, none], r⟩ = some (false, r) := by
      have := e_tb (e_bin (f := fGt) (e_row3 (r := r) (c0 none none)) e_cst (fGt_int r.r 0))
      rw [decide_eq_false h3] at this
      exact this
    have s1 := e_set1 (r := r) (c0 none none) (e_bin (f := fAdd) (e_row1 (c0 none none)) e_cst (fAdd_int r.i 1))
    have tl : mScLen ns (mVar 0) (mCst (.int 0)) ⟨[some (.dat .row), some (.dat (.int m)), none, none], ⟨r.i + 1, r.s, r.r⟩⟩ = some (⟨.int ns.length, .dat⟩, ⟨r.i + 1, r.s, r.r⟩) := rfl
    have t2 := e_tb (e_bin (f := fGt) (e_row1 (r := ⟨r.i + 1, r.s, r.r⟩) (c0 none none)) tl (fGt_int (r.i + 1) ns.length))
    by_cases h4 : (ns.length : Int) < r.i + 1
    · refine ⟨((r.s * 48271 + 11) % 2147483647 / 7) % m, ⟨r.i + 1, (r.s * 48271 + 11) % 2147483647, r.r⟩, st _ _ ?_, (hm _).1, (hm _).2, by show 0 ≤ r.i + 1; omega⟩
      rw [taken_eq, mSeq_if0 t]
      refine (mSeq_nx s1).trans ?_
      rw [decide_eq_true h4] at t2
      refine mSeq_if1 t2 ?_
      have s3 := e_set2 (r := ⟨r.i + 1, r.s, r.r⟩) (c0 none none) (e_bin (f := fMod) (e_call (f := f1 gInt) (e_cons (e_bin (f := fAdd) (e_bin (f := fMul) (e_row2 (c0 none none)) e_cst (fMul_c r.s)) e_cst (fAdd_int (r.s * 48271) 11)) e_nil) rfl) e_cst (fMod_pos (x := r.s * 48271 + 11) (m := 2147483647) (by omega)))
      refine (mSeq_nx s3).trans ?_
      exact e_ret (e_bin (f := fMod) (e_call (f := f1 gInt) (e_cons (e_bin (f := fDiv) (e_row2 (c0 none none)) e_cst (fDiv_pos (x := (r.s * 48271 + 11) % 2147483647) (m := 7) (by omega) (by omega))) e_nil) rfl) (v1 none none _) (fMod_pos h1)) rfl
    · rw [decide_eq_false h4] at t2
      have hlt : r.i.toNat < ns.length := by omega
      have hat : L2.atI ns (r.i + 1 - 1) = some (ns[r.i.toNat]'hlt) := by
        have e : r.i + 1 - 1 = ((r.i.toNat : Nat) : Int) := by omega
        rw [e, atI_nat hlt, List.getElem?_eq_getElem hlt]
      generalize hc : ns[r.i.toNat]'hlt = c at hat
      have sat : mScAt ns (mVar 0) (mCst (.int 0)) (mBin fSub (mRowIx (mVar 0) (mCst (.int 1))) (mCst (.int 1))) ⟨[some (.dat .row), some (.dat (.int m)), none, none], ⟨r.i + 1, r.s, r.r⟩⟩ = some (⟨.int c, .dat⟩, ⟨r.i + 1, r.s, r.r⟩) := by
        have hb := e_bin (f := fSub) (e_row1 (r := ⟨r.i + 1, r.s, r.r⟩) (c0 none none)) e_cst (fSub_int (r.i + 1) 1)
        unfold mScAt
        simp only
        rw [e_var (c0 none none), Option.bind_some]
        simp only
        rw [e_cst, Option.bind_some]
        simp only
        rw [hb, Option.bind_some]
        simp only
        rw [hat]; rfl
      have s2 := e_asg (i := 3) sat rfl
      have s3 := e_set2 (r := ⟨r.i + 1, r.s, r.r⟩) (c0 none (some (.dat (.int c)))) (e_bin (f := fMod) (e_call (f := f1 gInt) (e_cons (e_bin (f := fAdd) (e_bin (f := fAdd) (e_bin (f := fMul) (e_row2 (c0 none (some (.dat (.int c))))) e_cst (fMul_c r.s)) (e_var (i := 3) rfl) (fAdd_int (r.s * 48271) c)) e_cst (fAdd_int (r.s * 48271 + c) 11)) e_nil) rfl) e_cst (fMod_pos (x := r.s * 48271 + c + 11) (m := 2147483647) (by omega)))
      have hp : fPow (.int 10) (.int 18) = some ⟨.int 1000000000000000000, .dat⟩ := by
        have e : fPow (.int 10) (.int 18) = if decide (0 ≤ (18 : Int) ∧ (18 : Int) ≤ 1000000 ∧ (10 : Int).natAbs < 2 ^ 64) = true then some (evI ((10 : Int) ^ (18 : Int).toNat)) else none := rfl
        have e2 : (10 : Int) ^ (18 : Int).toNat = 1000000000000000000 := by decide +kernel
        rw [e, if_pos (by decide +kernel), e2]; rfl
      have t3 := fun r => e_tb (e_bin (S := [some (.dat .row), some (.dat (.int m)), none, some (.dat (.int c))]) (r := r) (f := fGe) (e_var (i := 3) (d := .int c) rfl) (e_bin (f := fPow) e_cst e_cst hp) (fGe_int c 1000000000000000000))
      have fin := fun r => e_ret (e_bin (S := [some (.dat .row), some (.dat (.int m)), none, some (.dat (.int c))]) (r := r) (f := fMod) (e_call (f := f1 gInt) (e_cons (e_var (i := 3) (d := .int c) rfl) e_nil) rfl) (v1 none (some (.dat (.int c))) _) (fMod_pos (x := c) h1)) rfl
      have pre : ∀ e r', (mSeq (mIfS (mTb (mBin fGe (mVar 3) (mBin fPow (mCst (.int 10)) (mCst (.int 18))))) (mRowSet 0 (mCst (.int 3)) (mBin fDiv (mVar 3) (mVar 1))) mNext) (mRet (mBin fMod (mCall (f1 gInt) (mCons (mVar 3) mNil)) (mVar 1)))) ⟨[some (.dat .row), some (.dat (.int m)), none, some (.dat (.int c))], ⟨r.i + 1, (r.s * 48271 + c + 11) % 2147483647, r.r⟩⟩ = some (.rt e, r') → m__law_taken ns ⟨[some (.dat .row), some (.dat (.int m)), none, none], r⟩ = some (.rt e, r') := by
        intro e r' h
        rw [taken_eq, mSeq_if0 t]
        refine (mSeq_nx s1).trans ?_
        rw [mSeq_if0 t2]
        exact (mSeq_nx s2).trans ((mSeq_nx s3).trans h)
      by_cases h5 : (1000000000000000000 : Int) ≤ c
      · refine ⟨c % m, ⟨r.i + 1, (r.s * 48271 + c + 11) % 2147483647, c / m⟩, st _ _ (pre _ _ ?_), (hm _).1, (hm _).2, by show 0 ≤ r.i + 1; omega⟩
        have t4 := t3 ⟨r.i + 1, (r.s * 48271 + c + 11) % 2147483647, r.r⟩
        rw [decide_eq_true h5] at t4
        have s4 := e_set3 (r := ⟨r.i + 1, (r.s * 48271 + c + 11) % 2147483647, r.r⟩) (c0 none (some (.dat (.int c)))) (e_bin (f := fDiv) (e_var (i := 3) rfl) (v1 none (some (.dat (.int c))) _) (fDiv_pos (x := c) h1 h2))
        have s5 : mIfS (mTb (mBin fGe (mVar 3) (mBin fPow (mCst (.int 10)) (mCst (.int 18))))) (mRowSet 0 (mCst (.int 3)) (mBin fDiv (mVar 3) (mVar 1))) mNext ⟨[some (.dat .row), some (.dat (.int m)), none, some (.dat (.int c))], ⟨r.i + 1, (r.s * 48271 + c + 11) % 2147483647, r.r⟩⟩ = some (.nx [some (.dat .row), some (.dat (.int m)), none, some (.dat (.int c))], ⟨r.i + 1, (r.s * 48271 + c + 11) % 2147483647, c / m⟩) := by
          unfold mIfS
          rw [t4, Option.bind_some]
          exact s4
        exact (mSeq_nx s5).trans (fin _)
      · refine ⟨c % m, ⟨r.i + 1, (r.s * 48271 + c + 11) % 2147483647, r.r⟩, st _ _ (pre _ _ ?_), (hm _).1, (hm _).2, by show 0 ≤ r.i + 1; omega⟩
        have t4 := t3 ⟨r.i + 1, (r.s * 48271 + c + 11) % 2147483647, r.r⟩
        rw [decide_eq_false h5] at t4
        rw [mSeq_if0 t4]
        exact fin _
theorem pick_ok (ns : List Int) {L : List D} (h1 : 0 < L.length) (h2 : L.length < 1073741824) {r : Rw} (hr : 0 ≤ r.i) : ∃ d r', d ∈ L ∧ f__law_pick ns [.row, .lst L] r = some (⟨d, .dat⟩, r') ∧ 0 ≤ r'.i := by
  obtain ⟨v, r', h3, h4, h5, h6⟩ := taken_ok ns (m := L.length) (by omega) (by omega) hr
  obtain ⟨k, rfl⟩ : ∃ k : Nat, v = k := ⟨v.toNat, by omega⟩
  have hlt : k < L.length := by omega
  refine ⟨L[k]'hlt, r', List.getElem_mem hlt, ?_, h6⟩
  refine mBody_rt (sl := [some (.dat .row), some (.dat (.lst L))]) rfl ?_
  have hx : fIx (.lst L) (.int k) = some ⟨L[k]'hlt, .dat⟩ := by
    rw [fIx_lst, atI_nat hlt, List.getElem?_eq_getElem hlt]; rfl
  exact e_ret (e_bin (f := fIx) (e_var (i := 1) rfl) (e_fn (n := 2) (e_cons (e_var (i := 0) (d := .row) rfl) (e_cons (e_call (f := f1 gLen) (e_cons (e_var (i := 1) (d := .lst L) rfl) e_nil) rfl) e_nil)) rfl rfl h3 rfl) hx) rfl
/-- a comprehension that draws -/
theorem mLcGo_draw {t : Tg} {me : ME} {slw : Sl} (P : D → Prop) (good : Rw → Prop) : ∀ {L acc : List D} {r : Rw}, acc.length + L.length ≤ lim → good r → (∀ x ∈ L, ∀ r, good r → ∃ sl1 d k r', bindT t slw x = some sl1 ∧ me ⟨sl1, r⟩ = some (⟨d, k⟩, r') ∧ k ≠ Kd.bor ∧ P d ∧ good r') →
    ∃ M r', mLcGo t mYes me slw L r acc = some (acc ++ M, r') ∧ M.length = L.length ∧ (∀ d ∈ M, P d) ∧ good r'
  | [], acc, r, _, hr, _ => ⟨[], r, by simp [mLcGo], rfl, fun d hd => (nomatch hd), hr⟩
  | x :: L, acc, r, hl, hr, h => by
    obtain ⟨sl1, d, k, r1, h1, h2, h3, h4, h5⟩ := h x List.mem_cons_self r hr
    rw [List.length_cons] at hl
    obtain ⟨M, r', h6, h7, h8, h9⟩ := mLcGo_draw (t := t) (me := me) (slw := slw) P good (L := L) (acc := acc ++ [d]) (r := r1) (by simp; omega) h5 fun y hy => h y (List.mem_cons_of_mem _ hy)
    refine ⟨d :: M, r', ?_, by simp [h7], fun e he => ?_, h9⟩
    · have hb : noBorK ⟨d, k⟩ = true := by simp [noBorK, h3]
      have hl2 : acc.length < lim := by omega
      have : mLcGo t mYes me slw (x :: L) r acc = mLcGo t mYes me slw L r1 (acc ++ [d]) := by
        simp [mLcGo, h1, h2, hb, hl2, mYes]
      rw [this, h6]
      simp
    · rcases List.mem_cons.mp he with rfl | he
      · exact h4
      · exact h8 e he
section
variable {g : Gp} {u : Nu} {s : Nat}
/-- a drawn row -/
theorem row_ok (ok : GpOk g) (ns : List Int) {r : Rw} (hr : 0 ≤ r.i) : ∃ w r', valid g w ∧ w.length ≤ 3 ∧ f__law_row ns [.row, .int g.n, .int 3] r = some (⟨wdD g w, .dat⟩, r') ∧ 0 ≤ r'.i := by
  obtain ⟨v, r1, h3, h4, h5, h6⟩ := taken_ok ns (m := 4) (by omega) (by omega) hr
  have hS := ok.s1
  have hS6 := ok.s6
  let sl0 : Sl := [some (.dat .row), some (.dat (.int g.n)), some (.dat (.int 3)), some (.dat (stD g)), none]
  have hv : ∃ k : Nat, v = k ∧ k < 4 := ⟨v.toNat, by omega, by omega⟩
  obtain ⟨k, rfl, hk⟩ := hv
  obtain ⟨M, r', g1, g2, g3, g4⟩ := mLcGo_draw (t := .one 4) (me := mFn 2 (f__law_pick ns) (mCons (mVar 0) (mCons (mVar 3) mNil))) (slw := sl0) (fun d => ∃ j, j < g.S ∧ d = g.st j) (fun r => 0 ≤ r.i) (L := (List.range k).map (fun (i : Nat) => D.int (0 + (i : Nat)))) (acc := []) (r := r1) (by simp; have : lim = 1000000 := rfl; omega) h6 (fun x _ r hr => by
    obtain ⟨d, r', q1, q2, q3⟩ := pick_ok ns (L := (List.range g.S).map g.st) (by simp; omega) (by simp; omega) hr
    obtain ⟨j, q4, rfl⟩ := List.mem_map.mp q1
    exact ⟨_, _, .dat, r', rfl, e_fn (n := 2) (e_cons (e_var (i := 0) (d := .row) rfl) (e_cons (e_var (i := 3) (d := stD g) rfl) e_nil)) rfl rfl q2 rfl, by decide, ⟨j, List.mem_range.mp q4, rfl⟩, q3⟩)
  have hM : ∃ w, valid g w ∧ M = w.map g.st := by
    have : ∀ M : List D, (∀ d ∈ M, ∃ j, j < g.S ∧ d = g.st j) → ∃ w, valid g w ∧ M = w.map g.st := by
      intro M
      induction M with
      | nil => exact fun _ => ⟨[], fun j hj => (nomatch hj), rfl⟩
      | cons d M ih =>
        intro h
        obtain ⟨j, hj, rfl⟩ := h d List.mem_cons_self
        obtain ⟨w, hw, rfl⟩ := ih fun e he => h e (List.mem_cons_of_mem _ he)
        exact ⟨j :: w, fun m hm => (List.mem_cons.mp hm).elim (fun e => e ▸ hj) (hw m), rfl⟩
    exact this M g3
  obtain ⟨w, hw, rfl⟩ := hM
  refine ⟨w, r', hw, by simp at g2; omega, ?_, g4⟩
  refine mBody_rt (sl := [some (.dat .row), some (.dat (.int g.n)), some (.dat (.int 3)), none, none]) rfl ?_
  have s1 := e_asg (S := [some (.dat .row), some (.dat (.int g.n)), some (.dat (.int 3)), none, none]) (r := r) (i := 3) (e_fn (n := 1) (F := f__law_steps) (e_cons (e_var (i := 1) (d := .int g.n) rfl) e_nil) rfl rfl (ok.lsteps r) rfl) rfl
  have hF := e_fn (S := sl0) (r := r) (n := 2) (F := f__law_taken ns) (e_cons (e_var (i := 0) (d := .row) rfl) (e_cons (e_bin (f := fAdd) (e_var (i := 2) (d := .int 3) rfl) e_cst (fAdd_int 3 1)) e_nil)) rfl rfl h3 rfl
  have hit : mRng1 (mCons (mFn 2 (f__law_taken ns) (mCons (mVar 0) (mCons (mBin fAdd (mVar 2) (mCst (.int 1))) mNil))) mNil) ⟨sl0, r⟩ = some ((List.range k).map (fun (i : Nat) => D.int (0 + (i : Nat))), true, r1) := by
    refine (mRng1_eq (e_cons hF e_nil)).trans ?_
    rw [if_pos (smallI_ok (by omega)), Int.toNat_natCast]; rfl
  have hlc := e_lc (vs := [4]) (mt := mYes) hit (show wipeS sl0 [4] = sl0 from rfl) g1
  have hret := e_ret (e_call (f := f1 gTuple) (e_cons hlc e_nil) rfl) rfl
  refine (mSeq_nx s1).trans ?_
  exact hret
end
end GD
/-! Kr -/
set_option maxHeartbeats 4000000
/-! Kr: _law_stays: the parts. -/
namespace GD
open PySem L2
theorem e_par {S sl : Sl} {r r1 : Rw} {is : List Nat} {B : MA} {es : List EV} (hB : B ⟨S, r⟩ = some (es, r1)) (hs : setE S is es = some sl) : mPar is B ⟨S, r⟩ = some (.nx sl, r1) := by
  unfold mPar
  simp only
  rw [hB, Option.bind_some]
  simp only
  rw [hs]; rfl
theorem e_varD {S : Sl} {r : Rw} {i : Nat} {d : D} {a : Option SV} (h : S[i]? = some a) (ha : isD a d) : ∃ k, mVar i ⟨S, r⟩ = some (⟨d, k⟩, r) := by
  rcases ha with rfl | rfl
  · exact ⟨_, e_var h⟩
  · exact ⟨_, e_varO h⟩
theorem eqD_tup (l m : List D) : eqD (.tup l) (.tup m) = PyData.eqvAll (pys l) (pys m) := by
  simp only [eqD, py, PyData.eqv]
theorem eqv_ints {n : Nat} : PyData.eqvAll (pys (List.replicate n (.int 0))) (pys (List.replicate n (.int 0))) = true := by
  induction n with
  | zero => rfl
  | succ n ih =>
    rw [List.replicate_succ]
    simp only [pys, py, PyData.eqvAll, PyData.eqv, ih]
    rfl
theorem shp_ints {l : List Int} : shp (.tup (l.map D.int)) = true := by
  refine (shp_list (n := 1) (by omega) fun d hd => ?_).2.1
  obtain ⟨i, _, rfl⟩ := List.mem_map.mp hd
  exact ⟨rfl, Nat.zero_le _⟩
theorem cut_tail {α : Type} (f : α → D) : ∀ w : List α, cutD (w.map f) (some 1) none = w.tail.map f
  | [] => rfl
  | x :: w => by
    have h := fSlL_tail (f x) (w.map f)
    have e : fSlL (.lst (f x :: w.map f)) (some 1) none = some ⟨.lst (cutD (f x :: w.map f) (some 1) none), .new⟩ := rfl
    rw [e] at h
    have h : D.lst (cutD (f x :: w.map f) (some 1) none) = D.lst (w.map f) := by
      have := Option.some.inj h
      exact congrArg EV.d this
    have h : cutD (f x :: w.map f) (some 1) none = w.map f := D.lst.inj h
    exact h
section
variable {g : Gp} {u : Nu} {s : Nat}
theorem shp_wd (ok : GpOk g) {w : List Nat} (hv : valid g w) : shp (wdD g w) = true ∧ (py (wdD g w)).depth ≤ 9 := by
  refine (shp_list (n := 8) (by omega) fun d hd => ?_).2
  obtain ⟨j, hj, rfl⟩ := List.mem_map.mp hd
  exact ok.sshp j (hv j hj)
theorem eqD_wd (ok : GpOk g) : ∀ {w w' : List Nat}, valid g w → valid g w' → eqD (wdD g w) (wdD g w') = decide (w = w') := by
  intro w w' hv hv'
  unfold wdD
  rw [eqD_tup]
  induction w generalizing w' with
  | nil =>
    cases w' with
    | nil => rfl
    | cons a w' => simp [pys, PyData.eqvAll]
  | cons j w ih =>
    cases w' with
    | nil => simp [pys, PyData.eqvAll]
    | cons a w' =>
      have h1 := ok.seq j a (hv j List.mem_cons_self) (hv' a List.mem_cons_self)
      have h2 := ih (w' := w') (fun k hk => hv k (List.mem_cons_of_mem _ hk)) (fun k hk => hv' k (List.mem_cons_of_mem _ hk))
      unfold eqD at h1
      simp only [List.map_cons, pys, PyData.eqvAll]
      rw [h1, h2]
      by_cases hja : j = a
      · subst hja; simp
      · simp [hja]
theorem any_wd (ok : GpOk g) {w : List Nat} (hv : valid g w) : ∀ {G : List (List Nat)}, (∀ x ∈ G, valid g x) → (G.map (wdD g)).any (fun z => eqD z (wdD g w)) = decide (w ∈ G)
  | [], _ => rfl
  | x :: G, h => by
    have h1 := any_wd ok hv (G := G) fun y hy => h y (List.mem_cons_of_mem _ hy)
    rw [List.map_cons, List.any_cons, h1, eqD_wd ok (h x List.mem_cons_self) hv]
    by_cases hx : x = w
    · subst hx; simp
    · have : ¬ w = x := fun z => hx z.symm
      simp [hx, this]
theorem in_good (ok : GpOk g) (neg : Bool) {w : List Nat} (hv : valid g w) {G : List (List Nat)} (h : ∀ x ∈ G, valid g x) : fIn neg (wdD g w) (.lst (G.map (wdD g))) = some ⟨.bl (neg != decide (w ∈ G)), .dat⟩ := by
  have h1 := (shp_wd ok hv).1
  have h2 : shp (.lst (G.map (wdD g))) = true := by
    refine (shp_list (n := 9) (by omega) fun d hd => ?_).1.1
    obtain ⟨x, hx, rfl⟩ := List.mem_map.mp hd
    exact shp_wd ok (h x hx)
  have e : fIn neg (wdD g w) (.lst (G.map (wdD g))) = (fInL neg (wdD g w) (.lst (G.map (wdD g)))).or (fInD neg (wdD g w) (.lst (G.map (wdD g)))) := rfl
  have e2 : fInL neg (wdD g w) (.lst (G.map (wdD g))) = if (shp (wdD g w) && shp (.lst (G.map (wdD g)))) = true then some (evB (neg != (G.map (wdD g)).any fun z => eqD z (wdD g w))) else none := rfl
  rw [e, e2, h1, h2, any_wd ok hv h]; rfl
/-- the good words -/
def good (g : Gp) (u : Nu) (s K : Nat) (b : Int) : List (List Nat) := (allw g K).filter fun w => decide (tot g u s w = b)
theorem good_mem {K : Nat} {b : Int} {w : List Nat} (hv : valid g w) : w ∈ good g u s K b ↔ w.length = K ∧ tot g u s w = b := by
  unfold good
  rw [List.mem_filter, allw_mem]
  constructor
  · rintro ⟨⟨_, h1⟩, h2⟩
    exact ⟨h1, of_decide_eq_true h2⟩
  · rintro ⟨h1, h2⟩
    exact ⟨⟨hv, h1⟩, decide_eq_true h2⟩
theorem good_valid {K : Nat} {b : Int} : ∀ w ∈ good g u s K b, valid g w := fun w hw => (allw_mem.mp (List.mem_filter.mp hw).1).1
abbrev goodD (g : Gp) (u : Nu) (s K : Nat) (b : Int) : D := .lst ((good g u s K b).map (wdD g))
abbrev dueM : ME := (mAnd (mIs isTupD (mVar 20)) (mAnd (mBin fEq (mCall (f1 gLen) (mCons (mVar 20) mNil)) (mCst (.int 2))) (mAnd (mBin fEq (mBin fIx (mVar 20) (mCst (.int 0))) (mVar 16)) (mAnd (mIs isTupD (mBin fIx (mVar 20) (mCst (.int 1)))) (mBin (fIn false) (mBin fIx (mVar 20) (mCst (.int 1))) (mVar 18))))))
theorem due_ok (ok : GpOk g) {K : Nat} {b : Int} {S : Sl} {r : Rw} {k : Kd} {v : D} {c : Bool} (hv : StayV g u s K b v c) (h20 : S[20]? = some (some (.dat v))) (h16 : S[16]? = some (some (.dat (.int b)))) (h18 : mVar 18 ⟨S, r⟩ = some (⟨goodD g u s K b, k⟩, r)) : dueM ⟨S, r⟩ = some (⟨.bl c, .dat⟩, r) := by
  have v20 := e_var (r := r) h20
  have v16 := e_var (r := r) h16
  have pre : ∀ (v0 : Int) (x : D) (c : Bool), v = .tup [.int v0, x] → (decide (v0 = b) = true → (mAnd (mIs isTupD (mBin fIx (mVar 20) (mCst (.int 1)))) (mBin (fIn false) (mBin fIx (mVar 20) (mCst (.int 1))) (mVar 18))) ⟨S, r⟩ = some (⟨.bl c, .dat⟩, r)) → dueM ⟨S, r⟩ = some (⟨.bl (decide (v0 = b) && c), .dat⟩, r) := by
    intro v0 x c e h
    subst e
    refine e_and1 (e_is v20 rfl) (e_and1 (e_bin (f := fEq) (e_call (f := f1 gLen) (e_cons v20 e_nil) rfl) e_cst (fEq_int 2 2)) ?_)
    have hx : fIx (.tup [.int v0, x]) (.int 0) = some ⟨.int v0, .dat⟩ := rfl
    have t := e_bin (f := fEq) (e_bin (f := fIx) v20 e_cst hx) v16 (fEq_int v0 b)
    cases hb : decide (v0 = b) with
    | true =>
      rw [hb] at t
      exact e_and1 t (h hb)
    | false =>
      rw [hb] at t
      exact e_and0 t
  cases hv with
  | no v h => exact e_and0 (e_is v20 h)
  | noword v0 x h =>
    have := pre v0 x false rfl fun _ => by
      have hx : fIx (.tup [.int v0, x]) (.int 1) = some ⟨x, .dat⟩ := rfl
      exact e_and0 (e_is (e_bin (f := fIx) v20 e_cst hx) h)
    rw [Bool.and_false] at this
    exact this
  | word v0 w hw hl =>
    refine pre v0 (wdD g w) _ rfl fun _ => ?_
    have hx : fIx (.tup [.int v0, wdD g w]) (.int 1) = some ⟨wdD g w, .dat⟩ := rfl
    have hi := in_good ok false hw (G := good g u s K b) good_valid
    have e : (false != decide (w ∈ good g u s K b)) = (decide (w.length = K) && decide (tot g u s w = b)) := by
      have := good_mem (u := u) (s := s) (K := K) (b := b) hw
      rw [Bool.eq_iff_iff]
      simp [this]
    rw [e] at hi
    exact e_and1 (e_is (e_bin (f := fIx) v20 e_cst hx) rfl) (e_bin (f := fIn false) (e_bin (f := fIx) v20 e_cst hx) h18 hi)
abbrev valBody (F : MF) : MSt := (mSeq (mAsg 21 dueM)
 (mIfS (mTNot (mTb (mFn 2 f__law_alike (mCons (mFn 5 F (mCons (mVar 0) (mCons (mVar 1) (mCons (mVar 2) (mCons (mVar 4) (mCons (mVar 20) mNil)))))) (mCons (mVar 21) mNil)))))
 (mRet (mCst (.bl false)))
 mNext))
def slV (g : Gp) (u : Nu) (s K : Nat) (b : Int) (w0 : List Nat) (a6 a7 a8 a9 a10 a11 a12 a13 a14 a15 : Option SV) (a18 a20 a21 : Option SV) : Sl := slZ g u s K a6 a7 a8 a9 a10 [a11, a12, a13, a14, a15, some (.dat (.int b)), some (.dat (bestD g b w0)), a18, some (.dat (wdD g w0)), a20, a21]
theorem val_step (ok : GpOk g) {F : MF} {K : Nat} {b : Int} {w0 : List Nat} {a6 a7 a8 a9 a10 a11 a12 a13 a14 a15 a18 a21 : Option SV} {r : Rw} {v : D} {c : Bool} (hv : StayV g u s K b v c) (h18 : isD a18 (goodD g u s K b)) (hF : F [g.gs s, u.lk, u.ps, .int K, v] r = some (⟨.bl c, .dat⟩, r)) :
    valBody F ⟨slV g u s K b w0 a6 a7 a8 a9 a10 a11 a12 a13 a14 a15 a18 (some (.dat v)) a21, r⟩ = some (.nx (slV g u s K b w0 a6 a7 a8 a9 a10 a11 a12 a13 a14 a15 a18 (some (.dat v)) (some (.dat (.bl c)))), r) := by
  obtain ⟨k, h⟩ := e_varD (S := slV g u s K b w0 a6 a7 a8 a9 a10 a11 a12 a13 a14 a15 a18 (some (.dat v)) a21) (r := r) (i := 18) rfl h18
  have s1 := e_asg (i := 21) (due_ok ok hv rfl rfl h) rfl
  refine (mSeq_nx s1).trans ?_
  have t := e_not (e_tb (e_fn (S := slV g u s K b w0 a6 a7 a8 a9 a10 a11 a12 a13 a14 a15 a18 (some (.dat v)) (some (.dat (.bl c)))) (r := r) (n := 2) (F := f__law_alike) (e_cons (e_fn (n := 5) (F := F) (e_cons (e_var (i := 0) rfl) (e_cons (e_var (i := 1) rfl) (e_cons (e_var (i := 2) rfl) (e_cons (e_var (i := 4) rfl) (e_cons (e_var (i := 20) rfl) e_nil))))) rfl rfl hF rfl) (e_cons (e_var (i := 21) (d := .bl c) rfl) e_nil)) rfl rfl (alike_ok c c r) rfl))
  rw [decide_eq_true rfl] at t
  show mIfS _ _ _ ⟨slV g u s K b w0 a6 a7 a8 a9 a10 a11 a12 a13 a14 a15 a18 (some (.dat v)) (some (.dat (.bl c))), r⟩ = _
  unfold mIfS
  rw [t]; rfl
end
end GD
/-! Ks -/
set_option maxHeartbeats 4000000
/-! Ks: _law_stays answers True. -/
namespace GD
open PySem L2
section
variable {g : Gp} {u : Nu} {s : Nat}
abbrev grD (g : Gp) : D := .lst ((List.range g.B).map g.gs)
theorem keys_tabL : (tabL g u).map (·.1) = (List.range g.S).map g.st := by
  unfold tabL
  rw [List.map_map]; rfl
theorem sA {FG FL : MF} (ok : GpOk g) {K : Nat} {l : List D} {t : Sl} {r : Rw} (hl : l.length = g.n) (h1 : FL [g.gs s] r = some (⟨.lst l, .new⟩, r)) (h2 : FG [.int g.n] r = some (⟨grD g, .new⟩, r)) :
    mPar [6, 7] (mCons (mFn 1 FG (mCons (mCall (f1 gLen) (mCons (mFn 1 FL (mCons (mVar 0) mNil)) mNil)) mNil)) (mCons (mCall gListA (mCons (mVar 3) mNil)) mNil)) ⟨slZ g u s K none none none none none t, r⟩ = some (.nx (slZ g u s K (some (.own (grD g))) (some (.own (stD g))) none none none t), r) := by
  have hlen : f1 gLen [.lst l] = some ⟨.int g.n, .dat⟩ := by
    have : f1 gLen [.lst l] = some ⟨.int l.length, .dat⟩ := rfl
    rw [this, hl]
  have hk : gListA [.dT (tabL g u)] = some ⟨stD g, .new⟩ := by
    have : gListA [.dT (tabL g u)] = some ⟨.lst ((tabL g u).map (·.1)), .new⟩ := rfl
    rw [this, keys_tabL]
  exact e_par (e_cons (e_fn (n := 1) (F := FG) (e_cons (e_call (f := f1 gLen) (e_cons (e_fn (n := 1) (F := FL) (e_cons (e_var (i := 0) rfl) e_nil) rfl rfl h1 rfl) e_nil) hlen) e_nil) rfl rfl h2 rfl) (e_cons (e_call (f := gListA) (e_cons (e_var (i := 3) rfl) e_nil) hk) e_nil)) rfl
theorem sB {K : Nat} {a6 a7 a8 a9 a10 : Option SV} {t : Sl} {r : Rw} : mAsg 8 (mLst (mCons (mTup (mCons (mTup mNil) (mCons (mVar 0) (mCons (mCst (.int 0)) mNil)))) mNil)) ⟨slZ g u s K a6 a7 a8 a9 a10 t, r⟩ = some (.nx (slZ g u s K a6 a7 (some (.own (rsD g u s [[]]))) a9 a10 t), r) :=
  e_asg (e_lst (e_cons (e_tup (e_cons (e_tup e_nil rfl (by simp [lim])) (e_cons (e_var (i := 0) rfl) (e_cons e_cst e_nil))) rfl (by simp [lim])) e_nil) rfl (by simp [lim])) rfl
theorem tot_max (ok : GpOk g) (nu : NuOk g u) {K : Nat} {w0 : List Nat} (hv : valid g w0) (hl : w0.length = K) (ht : tot g u s w0 = Tb g u K s) : maxI ((allw g K).map (tot g u s)) = some (Tb g u K s) := by
  refine maxI_spec (List.mem_map.mpr ⟨w0, allw_mem.mpr ⟨hv, hl⟩, ht⟩) fun y hy => ?_
  obtain ⟨w, hw, rfl⟩ := List.mem_map.mp hy
  obtain ⟨h1, h2⟩ := allw_mem.mp hw
  have := tot_le (i := s) ok nu h1
  rw [h2] at this
  exact this
theorem allw_lim (ok : GpOk g) {K : Nat} (hK : K ≤ 2) : (allw g K).length ≤ 36 := by
  rw [allw_len]
  have h6 := ok.s6
  have : K = 0 ∨ K = 1 ∨ K = 2 := by omega
  rcases this with rfl | rfl | rfl
  · simp
  · simp; omega
  · have := Nat.mul_le_mul h6 h6
    rw [Nat.pow_two]
    exact this
theorem sD {FB : MF} (ok : GpOk g) (nu : NuOk g u) {K : Nat} (hK : K ≤ 2) {b : Int} {w0 : List Nat} {a6 a7 a8 a9 a10 a11 a12 a13 a14 a15 a16 a17 a18 a19 a20 a21 : Option SV} {r : Rw} (h8 : isD a8 (rsD g u s (allw g K))) (hm : maxI ((allw g K).map (tot g u s)) = some b) (hB : FB [g.gs s, u.lk, u.ps, .int K] r = some (⟨bestD g b w0, .dat⟩, r)) :
    mPar [16, 17] (mCons (mCall (f1 gMax) (mCons (mLc (.one 11) [11] (mIt (mVar 8)) mYes (mBin fIx (mVar 11) (mCst (.int 2)))) mNil)) (mCons (mFn 4 FB (mCons (mVar 0) (mCons (mVar 1) (mCons (mVar 2) (mCons (mVar 4) mNil))))) mNil)) ⟨slZ g u s K a6 a7 a8 a9 a10 [a11, a12, a13, a14, a15, a16, a17, a18, a19, a20, a21], r⟩
      = some (.nx (slZ g u s K a6 a7 a8 a9 a10 [a11, a12, a13, a14, a15, some (.dat (.int b)), some (.dat (bestD g b w0)), a18, a19, a20, a21]), r) := by
  obtain ⟨k, hv8⟩ := e_varD (S := slZ g u s K a6 a7 a8 a9 a10 [a11, a12, a13, a14, a15, a16, a17, a18, a19, a20, a21]) (r := r) (i := 8) rfl h8
  have hgo := mLcGo_all (t := .one 11) (me := mBin fIx (mVar 11) (mCst (.int 2))) (slw := slZ g u s K a6 a7 a8 a9 a10 [none, a12, a13, a14, a15, a16, a17, a18, a19, a20, a21]) (r := r) (rD g u s) (fun w => D.int (tot g u s w)) (L := allw g K) (by have := allw_lim ok hK; have : lim = 1000000 := rfl; omega) (fun w hw => ⟨_, .dat, by decide, rfl, e_bin (f := fIx) (e_var (i := 11) rfl) e_cst rfl⟩)
  have hg : f1 gMax [.lst ((allw g K).map fun w => D.int (tot g u s w))] = some ⟨.int b, .dat⟩ := by
    have e : f1 gMax [.lst ((allw g K).map fun w => D.int (tot g u s w))] = gMax (.lst ((allw g K).map fun w => D.int (tot g u s w))) := rfl
    have e2 : ((allw g K).map fun w => D.int (tot g u s w)) = ((allw g K).map (tot g u s)).map D.int := by rw [List.map_map]; rfl
    rw [e, e2, gMax_lst, intsD_map, Option.bind_some, hm]; rfl
  exact e_par (e_cons (e_call (f := f1 gMax) (e_cons (e_lc (vs := [11]) (e_it hv8 rfl) rfl hgo) e_nil) hg) (e_cons (e_fn (n := 4) (F := FB) (e_cons (e_var (i := 0) rfl) (e_cons (e_var (i := 1) rfl) (e_cons (e_var (i := 2) rfl) (e_cons (e_var (i := 4) rfl) e_nil)))) rfl rfl hB rfl) e_nil)) rfl
theorem sE (ok : GpOk g) {K : Nat} (hK : K ≤ 2) {b : Int} {a6 a7 a8 a9 a10 a11 a12 a13 a14 a15 a17 a18 a19 a20 a21 : Option SV} {r : Rw} (h8 : isD a8 (rsD g u s (allw g K))) :
    mAsg 18 (mLc (.one 11) [11] (mIt (mVar 8)) (mTb (mBin fEq (mBin fIx (mVar 11) (mCst (.int 2))) (mVar 16))) (mBin fIx (mVar 11) (mCst (.int 0)))) ⟨slZ g u s K a6 a7 a8 a9 a10 [a11, a12, a13, a14, a15, some (.dat (.int b)), a17, a18, a19, a20, a21], r⟩
      = some (.nx (slZ g u s K a6 a7 a8 a9 a10 [a11, a12, a13, a14, a15, some (.dat (.int b)), a17, some (.own (goodD g u s K b)), a19, a20, a21]), r) := by
  obtain ⟨k, hv8⟩ := e_varD (S := slZ g u s K a6 a7 a8 a9 a10 [a11, a12, a13, a14, a15, some (.dat (.int b)), a17, a18, a19, a20, a21]) (r := r) (i := 8) rfl h8
  have hgo := mLcGo_map (t := .one 11) (mt := (mTb (mBin fEq (mBin fIx (mVar 11) (mCst (.int 2))) (mVar 16)))) (me := mBin fIx (mVar 11) (mCst (.int 0))) (slw := slZ g u s K a6 a7 a8 a9 a10 [none, a12, a13, a14, a15, some (.dat (.int b)), a17, a18, a19, a20, a21]) (r := r) (rD g u s) (fun w => decide (tot g u s w = b)) (wdD g) (L := allw g K) (acc := []) (by have := allw_lim ok hK; have : lim = 1000000 := rfl; simp; omega) (fun w hw => ⟨_, rfl, e_tb (e_bin (f := fEq) (e_bin (f := fIx) (e_var (i := 11) rfl) e_cst rfl) (e_var (i := 16) rfl) (fEq_int _ _)), fun _ => ⟨.dat, by decide, e_bin (f := fIx) (e_var (i := 11) rfl) e_cst rfl⟩⟩)
  exact e_asg (e_lc (vs := [11]) (e_it hv8 rfl) rfl hgo) rfl
theorem sF (ok : GpOk g) {K : Nat} {b : Int} {w0 : List Nat} {a6 a7 a8 a9 a10 a11 a12 a13 a14 a15 a19 a20 a21 : Option SV} {r : Rw} (hv : valid g w0) (hl : w0.length = K) (ht : tot g u s w0 = b) :
    (mTOr (mTNot (mTb (mIs isTupD (mVar 17)))) (mTOr (mTb (mBin fNe (mCall (f1 gLen) (mCons (mVar 17) mNil)) (mCst (.int 2)))) (mTOr (mTb (mBin fNe (mBin fIx (mVar 17) (mCst (.int 0))) (mVar 16))) (mTb (mBin (fIn true) (mBin fIx (mVar 17) (mCst (.int 1))) (mVar 18)))))) ⟨slZ g u s K a6 a7 a8 a9 a10 [a11, a12, a13, a14, a15, some (.dat (.int b)), some (.dat (bestD g b w0)), some (.own (goodD g u s K b)), a19, a20, a21], r⟩ = some (false, r) := by
  generalize hS : slZ g u s K a6 a7 a8 a9 a10 [a11, a12, a13, a14, a15, some (.dat (.int b)), some (.dat (bestD g b w0)), some (.own (goodD g u s K b)), a19, a20, a21] = S
  have v17 : mVar 17 ⟨S, r⟩ = some (⟨bestD g b w0, .dat⟩, r) := by rw [← hS]; rfl
  have v16 : mVar 16 ⟨S, r⟩ = some (⟨.int b, .dat⟩, r) := by rw [← hS]; rfl
  have v18 : mVar 18 ⟨S, r⟩ = some (⟨goodD g u s K b, .bor⟩, r) := by rw [← hS]; rfl
  have x0 : fIx (bestD g b w0) (.int 0) = some ⟨.int b, .dat⟩ := rfl
  have x1 : fIx (bestD g b w0) (.int 1) = some ⟨wdD g w0, .dat⟩ := rfl
  have n1 : fNe (.int 2) (.int 2) = some ⟨.bl false, .dat⟩ := rfl
  have n2 : fNe (.int b) (.int b) = some ⟨.bl false, .dat⟩ := by rw [fNe_int]; simp
  have hi := in_good ok true hv (G := good g u s K b) good_valid
  have hmem : w0 ∈ good g u s K b := (good_mem hv).mpr ⟨hl, ht⟩
  rw [decide_eq_true hmem] at hi
  exact e_or0 (e_not (b := true) (e_tb (e_is (f := isTupD) v17 rfl))) (e_or0 (e_tb (e_bin (f := fNe) (e_call (f := f1 gLen) (e_cons v17 e_nil) rfl) e_cst n1)) (e_or0 (e_tb (e_bin (f := fNe) (e_bin (f := fIx) v17 e_cst x0) v16 n2)) (e_tb (e_bin (f := fIn true) (e_bin (f := fIx) v17 e_cst x1) v18 hi))))
theorem sG {K : Nat} {b : Int} {w0 : List Nat} {a6 a7 a8 a9 a10 a11 a12 a13 a14 a15 a18 a19 a20 a21 : Option SV} {r : Rw} :
    mAsg 19 (mBin fIx (mVar 17) (mCst (.int 1))) ⟨slZ g u s K a6 a7 a8 a9 a10 [a11, a12, a13, a14, a15, some (.dat (.int b)), some (.dat (bestD g b w0)), a18, a19, a20, a21], r⟩ = some (.nx (slV g u s K b w0 a6 a7 a8 a9 a10 a11 a12 a13 a14 a15 a18 a20 a21), r) := by
  have x1 : fIx (bestD g b w0) (.int 1) = some ⟨wdD g w0, .dat⟩ := rfl
  exact e_asg (e_bin (f := fIx) (e_var (i := 17) rfl) e_cst x1) rfl
abbrev valsM (F : MF) : ME := (mLst (mCons (mVar 17) (mCons (mCall gListA (mCons (mVar 17) mNil)) (mCons (mTup (mCons (mVar 16) (mCons (mCall gListA (mCons (mVar 19) mNil)) mNil))) (mCons (mTup (mCons (mBin fAdd (mVar 16) (mCst (.int 1))) (mCons (mVar 19) mNil))) (mCons (mTup (mCons (mVar 16) (mCons (mSl fSlT (mVar 19) (mOSome (mCst (.int 1))) mONone) mNil))) (mCons (mTup (mCons (mVar 16) (mCons (mTup mNil) mNil))) (mCons (mCst .non) (mCons (mCst (.int 3)) (mCons (mTup (mCons (mVar 16) (mCons (mBin fIx (mFn 2 F (mCons (mVar 5) (mCons (mVar 8) mNil))) (mCst (.int 0))) mNil))) (mCons (mTup (mCons (mVar 16) (mCons (mRevT (mVar 19)) mNil))) mNil)))))))))))
theorem e_revT {S : Sl} {r r1 : Rw} {A : ME} {l : List D} {k : Kd} (hA : A ⟨S, r⟩ = some (⟨.tup l, k⟩, r1)) : mRevT A ⟨S, r⟩ = some (⟨.tup l.reverse, .dat⟩, r1) := by
  unfold mRevT
  rw [hA]; rfl
theorem sH1 (ok : GpOk g) {F : MF} {K : Nat} (hK : K ≤ 2) {b : Int} {w0 : List Nat} (hv : valid g w0) (hl : w0.length = K) {a6 a7 a9 a10 a11 a12 a13 a14 a15 a18 a20 a21 : Option SV} {r r' : Rw} {d : D} (hd : d ∈ (allw g K).map (rD g u s)) (hF : F [.row, rsD g u s (allw g K)] r = some (⟨d, .dat⟩, r')) :
    ∃ L, mIt (valsM F) ⟨slV g u s K b w0 a6 a7 (some (.dat (rsD g u s (allw g K)))) a9 a10 a11 a12 a13 a14 a15 a18 a20 a21, r⟩ = some (L, true, r') ∧ ∀ v ∈ L, ∃ c, StayV g u s K b v c := by
  obtain ⟨w1, hw1, rfl⟩ := List.mem_map.mp hd
  obtain ⟨hv1, hl1⟩ := allw_mem.mp hw1
  generalize hS : slV g u s K b w0 a6 a7 (some (.dat (rsD g u s (allw g K)))) a9 a10 a11 a12 a13 a14 a15 a18 a20 a21 = S
  have v17 : ∀ r, mVar 17 ⟨S, r⟩ = some (⟨bestD g b w0, .dat⟩, r) := fun r => by rw [← hS]; rfl
  have v16 : ∀ r, mVar 16 ⟨S, r⟩ = some (⟨.int b, .dat⟩, r) := fun r => by rw [← hS]; rfl
  have v19 : ∀ r, mVar 19 ⟨S, r⟩ = some (⟨wdD g w0, .dat⟩, r) := fun r => by rw [← hS]; rfl
  have v5 : ∀ r, mVar 5 ⟨S, r⟩ = some (⟨.row, .dat⟩, r) := fun r => by rw [← hS]; rfl
  have v8 : ∀ r, mVar 8 ⟨S, r⟩ = some (⟨rsD g u s (allw g K), .dat⟩, r) := fun r => by rw [← hS]; rfl
  have x0 : fIx (rD g u s w1) (.int 0) = some ⟨wdD g w1, .dat⟩ := rfl
  have q3 := e_tup (e_cons (v16 r) (e_cons (e_call (f := gListA) (e := ⟨.lst (w0.map g.st), .new⟩) (e_cons (v19 r) e_nil) rfl) e_nil)) rfl (by simp [lim])
  have q4 := e_tup (e_cons (e_bin (f := fAdd) (v16 r) e_cst (fAdd_int b 1)) (e_cons (v19 r) e_nil)) rfl (by simp [lim])
  have q5 := e_tup (e_cons (v16 r) (e_cons (e_slT (lo := mOSome (mCst (.int 1))) (hi := mONone) (i := some 1) (j := none) (v19 r) rfl rfl) e_nil)) rfl (by simp [lim])
  have q6 := e_tup (e_cons (v16 r) (e_cons (e_tup (S := S) (r := r) e_nil rfl (by simp [lim])) e_nil)) rfl (by simp [lim])
  have q9 := e_tup (e_cons (v16 r) (e_cons (e_bin (f := fIx) (e_fn (n := 2) (F := F) (e_cons (v5 r) (e_cons (v8 r) e_nil)) rfl rfl hF rfl) e_cst x0) e_nil)) rfl (by simp [lim])
  have q10 := e_tup (e_cons (v16 r') (e_cons (e_revT (v19 r')) e_nil)) rfl (by simp [lim])
  have q2 := e_call (f := gListA) (e := ⟨.lst [.int b, .tup (w0.map g.st)], .new⟩) (e_cons (v17 r) e_nil) rfl
  have hall := e_it (e_lst (e_cons (v17 r) (e_cons q2 (e_cons q3 (e_cons q4 (e_cons q5 (e_cons q6 (e_cons (e_cst (d := .non)) (e_cons (e_cst (d := .int 3)) (e_cons q9 (e_cons q10 e_nil)))))))))) rfl (by simp [lim])) (rfl : itD (D.lst _) = some _)
  refine ⟨_, hall, fun v hv' => ?_⟩
  have e5 : (.tup [.int b, .tup (cutD (w0.map g.st) (some 1) none)] : D) = .tup [.int b, wdD g w0.tail] := by rw [cut_tail]
  have e10 : (.tup [.int b, .tup (w0.map g.st).reverse] : D) = .tup [.int b, wdD g w0.reverse] := by rw [← List.map_reverse]
  simp only [List.map_cons, List.map_nil, List.mem_cons, List.not_mem_nil, or_false] at hv'
  rcases hv' with rfl | rfl | rfl | rfl | rfl | rfl | rfl | rfl | rfl | rfl
  · exact ⟨_, .word b w0 hv (by omega)⟩
  · exact ⟨_, .no _ rfl⟩
  · exact ⟨_, .noword b _ rfl⟩
  · exact ⟨_, .word (b + 1) w0 hv (by omega)⟩
  · rw [e5]
    exact ⟨_, .word b w0.tail (fun j hj => hv j (List.mem_of_mem_tail hj)) (by rw [List.length_tail]; omega)⟩
  · exact ⟨_, .word b [] (fun j hj => (nomatch hj)) (by simp)⟩
  · exact ⟨_, .no _ rfl⟩
  · exact ⟨_, .no _ rfl⟩
  · exact ⟨_, .word b w1 hv1 (by omega)⟩
  · rw [e10]
    exact ⟨_, .word b w0.reverse (fun j hj => hv j (List.mem_reverse.mp hj)) (by rw [List.length_reverse]; omega)⟩
theorem sH (ok : GpOk g) {F FB : MF} {K : Nat} (hK : K ≤ 2) {b : Int} {w0 : List Nat} (hv : valid g w0) (hl : w0.length = K) {a6 a7 a8 a9 a10 a11 a12 a13 a14 a15 a18 a20 a21 : Option SV} {r r' : Rw} {d : D} (h8 : isD a8 (rsD g u s (allw g K))) (h18 : isD a18 (goodD g u s K b)) (hd : d ∈ (allw g K).map (rD g u s)) (hF : F [.row, rsD g u s (allw g K)] r = some (⟨d, .dat⟩, r'))
    (hB : ∀ v c, StayV g u s K b v c → FB [g.gs s, u.lk, u.ps, .int K, v] r' = some (⟨.bl c, .dat⟩, r')) :
    ∃ c20 c21, (mFrz 8 (mForS (.one 20) (mIt (valsM F)) (valBody FB))) ⟨slV g u s K b w0 a6 a7 a8 a9 a10 a11 a12 a13 a14 a15 a18 a20 a21, r⟩ = some (.nx (slV g u s K b w0 a6 a7 (some (.dat (rsD g u s (allw g K)))) a9 a10 a11 a12 a13 a14 a15 a18 c20 c21), r') := by
  obtain ⟨L, hit, hL⟩ := sH1 (u := u) (s := s) ok (F := F) hK (b := b) hv hl (a6 := a6) (a7 := a7) (a9 := a9) (a10 := a10) (a11 := a11) (a12 := a12) (a13 := a13) (a14 := a14) (a15 := a15) (a18 := a18) (a20 := a20) (a21 := a21) hd hF
  obtain ⟨sl', w1, c20, c21, rfl⟩ := mFor_rel (t := .one 20) (body := valBody FB) (r := r') (fun d : D => d)
    (fun Q sl => ∃ c20 c21, sl = slV g u s K b w0 a6 a7 (some (.dat (rsD g u s (allw g K)))) a9 a10 a11 a12 a13 a14 a15 a18 c20 c21)
    L L [] (slV g u s K b w0 a6 a7 (some (.dat (rsD g u s (allw g K)))) a9 a10 a11 a12 a13 a14 a15 a18 a20 a21) rfl
    (fun Q v rest sl hp ⟨d20, d21, e⟩ => by
      subst e
      obtain ⟨c, hc⟩ := hL v (by rw [← hp]; simp)
      exact ⟨_, _, rfl, val_step ok hc h18 (hB v c hc), some (.dat v), some (.dat (.bl c)), rfl⟩)
    ⟨a20, a21, rfl⟩
  rw [List.map_id'] at w1
  refine ⟨c20, c21, ?_⟩
  unfold mFrz
  simp only
  have e : frz 8 (slV g u s K b w0 a6 a7 a8 a9 a10 a11 a12 a13 a14 a15 a18 a20 a21) = slV g u s K b w0 a6 a7 (some (.dat (rsD g u s (allw g K)))) a9 a10 a11 a12 a13 a14 a15 a18 a20 a21 := by
    rcases h8 with rfl | rfl <;> rfl
  rw [e]
  unfold mForS
  rw [hit]
  exact w1
end
end GD
/-! Kt -/
set_option maxHeartbeats 4000000
/-! Kt: _law_stays, whole. -/
namespace GD
open PySem L2
theorem idx_at {key : Nat → D} {b i : Nat} (hk : ∀ i i', i < b → i' < b → eqD (key i) (key i') = decide (i = i')) (hi : i < b) : ∀ {L : List Nat} {k : Nat}, (∀ m ∈ L, m < b) → L[k]? = some i → (∀ m < k, L[m]? ≠ some i) → idxD (key i) (L.map key) = some k
  | [], k, _, h, _ => by simp at h
  | a :: L, k, hb, h, hn => by
    have e := hk a i (hb a List.mem_cons_self) hi
    rw [List.map_cons]
    unfold idxD
    rw [e]
    cases k with
    | zero =>
      simp at h
      simp [h]
    | succ k =>
      have hai : a ≠ i := by
        intro z
        exact hn 0 (by omega) (by simp [z])
      have ih := idx_at hk hi (L := L) (k := k) (fun m hm => hb m (List.mem_cons_of_mem _ hm)) (by simpa using h) (fun m hm => by
        have := hn (m + 1) (by omega)
        simpa using this)
      simp [hai, ih]
section
variable {g : Gp} {u : Nu} {s : Nat}
theorem fIdx_gs (ok : GpOk g) (hs : s < g.B) : fIdx (grD g) (g.gs s) = some ⟨.int s, .dat⟩ := by
  have e : fIdx (grD g) (g.gs s) = if (shp (g.gs s) && shp (grD g)) = true then (idxD (g.gs s) ((List.range g.B).map g.gs)).map fun j => evI (j : Nat) else none := rfl
  have h1 := (ok.gshp s hs).1
  have h2 : shp (grD g) = true := by
    refine (shp_list (n := 8) (by omega) fun d hd => ?_).1.1
    obtain ⟨i, hi, rfl⟩ := List.mem_map.mp hd
    have := ok.gshp i (List.mem_range.mp hi)
    exact ⟨this.1, this.2.1⟩
  have h3 := idx_at ok.geq hs (L := List.range g.B) (k := s) (fun m hm => List.mem_range.mp hm) (List.getElem?_range hs) (fun m hm z => by
    have : (List.range g.B)[m]? = some m := List.getElem?_range (by omega)
    rw [this] at z
    cases z
    omega)
  rw [e, h1, h2, h3]; rfl
theorem rowD_zero : rowD g u 0 = .tup (List.replicate g.B (.int 0)) := by
  unfold rowD
  congr 1
  have : (fun i => D.int (Tb g u 0 i)) = fun _ => D.int 0 := rfl
  rw [this, List.map_const', List.length_range]
theorem fMul_rep {n : Nat} (h1 : 1 ≤ n) (h2 : n ≤ 1000) : fMul (.tup [.int 0]) (.int n) = some ⟨.tup (List.replicate n (.int 0)), .dat⟩ := by
  have e : fMul (.tup [.int 0]) (.int n) = if (!([.int 0] : List D).isEmpty && decide (1 ≤ (n : Int) ∧ (n : Int) ≤ 1000) && decide (([.int 0] : List D).length ≤ 1000)) = true then some (datE (.tup (List.replicate (n : Int).toNat [D.int 0]).flatten)) else none := rfl
  have c : decide (1 ≤ (n : Int) ∧ (n : Int) ≤ 1000) = true := decide_eq_true ⟨by omega, by omega⟩
  rw [e, c, if_pos (by rfl), Int.toNat_natCast]
  have f : ∀ n : Nat, (List.replicate n [D.int 0]).flatten = List.replicate n (D.int 0) := by
    intro n
    induction n with
    | zero => rfl
    | succ n ih => rw [List.replicate_succ, List.flatten_cons, ih]; rfl
  rw [f]; rfl
theorem fEq_rep (n : Nat) : fEq (.tup (List.replicate n (.int 0))) (.tup (List.replicate n (.int 0))) = some ⟨.bl true, .dat⟩ := by
  have h : shp (.tup (List.replicate n (.int 0))) = true := by
    have := shp_ints (l := List.replicate n 0)
    rw [List.map_replicate] at this
    exact this
  unfold fEq
  rw [h, eqD_tup, eqv_ints]; rfl
theorem sJ (ok : GpOk g) (hs : s < g.B) {K : Nat} {b : Int} {w0 : List Nat} (hb : Tb g u K s = b) {a7 a9 a10 a11 a12 a13 a14 a15 a18 a20 a21 : Option SV} {r : Rw} :
    (mRet (mAnd (mBin fEq (mCall (f1 gLen) (mCons (mVar 8) mNil)) (mBin fAdd (mVar 4) (mCst (.int 1)))) (mAnd (mBin fEq (mBin fIx (mVar 8) (mCst (.int 0))) (mBin fMul (mTup (mCons (mCst (.int 0)) mNil)) (mCall (f1 gLen) (mCons (mVar 6) mNil)))) (mBin fEq (mBin fIx (mBin fIx (mVar 8) (mVar 4)) (mBin fIdx (mVar 6) (mVar 0))) (mVar 16))))) ⟨slV g u s K b w0 (some (.own (grD g))) a7 (some (.dat (.tup ((List.range (K + 1)).map (rowD g u))))) a9 a10 a11 a12 a13 a14 a15 a18 a20 a21, r⟩ = some (.rt ⟨.bl true, .dat⟩, r) := by
  generalize hS : slV g u s K b w0 (some (.own (grD g))) a7 (some (.dat (.tup ((List.range (K + 1)).map (rowD g u))))) a9 a10 a11 a12 a13 a14 a15 a18 a20 a21 = S
  have v8 : mVar 8 ⟨S, r⟩ = some (⟨.tup ((List.range (K + 1)).map (rowD g u)), .dat⟩, r) := by rw [← hS]; rfl
  have v4 : mVar 4 ⟨S, r⟩ = some (⟨.int K, .dat⟩, r) := by rw [← hS]; rfl
  have v6 : mVar 6 ⟨S, r⟩ = some (⟨grD g, .bor⟩, r) := by rw [← hS]; rfl
  have v0 : mVar 0 ⟨S, r⟩ = some (⟨g.gs s, .dat⟩, r) := by rw [← hS]; rfl
  have v16 : mVar 16 ⟨S, r⟩ = some (⟨.int b, .dat⟩, r) := by rw [← hS]; rfl
  have l8 : f1 gLen [.tup ((List.range (K + 1)).map (rowD g u))] = some ⟨.int ((K : Int) + 1), .dat⟩ := by
    have e : f1 gLen [.tup ((List.range (K + 1)).map (rowD g u))] = some (evI ((List.range (K + 1)).map (rowD g u)).length) := rfl
    rw [e, List.length_map, List.length_range]; rfl
  have l6 : f1 gLen [grD g] = some ⟨.int g.B, .dat⟩ := by
    have e : f1 gLen [grD g] = some (evI ((List.range g.B).map g.gs).length) := rfl
    rw [e, List.length_map, List.length_range]; rfl
  have e1 : fEq (.int ((K : Int) + 1)) (.int ((K : Int) + 1)) = some ⟨.bl true, .dat⟩ := by rw [fEq_int]; simp
  have x0 : fIx (.tup ((List.range (K + 1)).map (rowD g u))) (.int 0) = some ⟨rowD g u 0, .dat⟩ := by
    have := atI_nat (l := (List.range (K + 1)).map (rowD g u)) (k := 0) (by simp)
    rw [fIx_tup]
    have e : L2.atI ((List.range (K + 1)).map (rowD g u)) 0 = some (rowD g u 0) := by
      refine this.trans ?_
      rw [List.getElem?_map, List.getElem?_range (by omega)]; rfl
    rw [e]; rfl
  have xK : fIx (.tup ((List.range (K + 1)).map (rowD g u))) (.int K) = some ⟨rowD g u K, .dat⟩ := by
    rw [fIx_tup, atI_nat (by simp), List.getElem?_map, List.getElem?_range (by omega)]; rfl
  have xs : fIx (rowD g u K) (.int s) = some ⟨.int b, .dat⟩ := by
    unfold rowD
    rw [fIx_tup, atI_nat (by simpa using hs), List.getElem?_map, List.getElem?_range hs, ← hb]; rfl
  have e2 : fEq (rowD g u 0) (.tup (List.replicate g.B (.int 0))) = some ⟨.bl true, .dat⟩ := by rw [rowD_zero]; exact fEq_rep _
  have e3 : fEq (.int b) (.int b) = some ⟨.bl true, .dat⟩ := by rw [fEq_int]; simp
  have hB := ok.b5
  have q0 := e_tup (e_cons (e_cst (S := S) (r := r) (d := .int 0)) e_nil) rfl (by simp [lim])
  exact e_ret (e_and1 (e_bin (f := fEq) (e_call (f := f1 gLen) (e_cons v8 e_nil) l8) (e_bin (f := fAdd) v4 e_cst (fAdd_int _ _)) e1) (e_and1 (e_bin (f := fEq) (e_bin (f := fIx) v8 e_cst x0) (e_bin (f := fMul) q0 (e_call (f := f1 gLen) (e_cons v6 e_nil) l6) (fMul_rep (by omega) (by omega))) e2) (e_bin (f := fEq) (e_bin (f := fIx) (e_bin (f := fIx) v8 v4 xK) (e_bin (f := fIdx) v6 v0 (fIdx_gs ok hs)) xs) v16 e3))) rfl
theorem stays_eq (ns : List Int) : m__law_stays ns = (mSeq (mPar [6, 7] (mCons (mFn 1 f__law_groupings (mCons (mCall (f1 gLen) (mCons (mFn 1 f__law_labels (mCons (mVar 0) mNil)) mNil)) mNil)) (mCons (mCall gListA (mCons (mVar 3) mNil)) mNil)))
 (mSeq (mAsg 8 (mLst (mCons (mTup (mCons (mTup mNil) (mCons (mVar 0) (mCons (mCst (.int 0)) mNil)))) mNil)))
 (mSeq (mForS (.one 9) (mRng1 (mCons (mVar 4) mNil)) (mSeq (mAsg 10 (mLst mNil)) (mSeq (mFrz 8 (mForS (.many [11, 12, 13]) (mIt (mVar 8)) (mFrz 7 (mForS (.one 14) (mIt (mVar 7)) (syStep f__law_step f__law_worth))))) (mFrz 10 (mAsg 8 (mVar 10))))))
 (mSeq (mPar [16, 17] (mCons (mCall (f1 gMax) (mCons (mLc (.one 11) [11] (mIt (mVar 8)) mYes (mBin fIx (mVar 11) (mCst (.int 2)))) mNil)) (mCons (mFn 4 f_best_stay (mCons (mVar 0) (mCons (mVar 1) (mCons (mVar 2) (mCons (mVar 4) mNil))))) mNil)))
 (mSeq (mAsg 18 (mLc (.one 11) [11] (mIt (mVar 8)) (mTb (mBin fEq (mBin fIx (mVar 11) (mCst (.int 2))) (mVar 16))) (mBin fIx (mVar 11) (mCst (.int 0)))))
 (mSeq (mIfS (mTOr (mTNot (mTb (mIs isTupD (mVar 17)))) (mTOr (mTb (mBin fNe (mCall (f1 gLen) (mCons (mVar 17) mNil)) (mCst (.int 2)))) (mTOr (mTb (mBin fNe (mBin fIx (mVar 17) (mCst (.int 0))) (mVar 16))) (mTb (mBin (fIn true) (mBin fIx (mVar 17) (mCst (.int 1))) (mVar 18))))))
 (mRet (mCst (.bl false)))
 mNext)
 (mSeq (mAsg 19 (mBin fIx (mVar 17) (mCst (.int 1))))
 (mSeq (mFrz 8 (mForS (.one 20) (mIt (valsM (f__law_pick ns))) (valBody f_shows_best_stay)))
 (mSeq (mAsg 8 (mFn 3 f_stay_worths (mCons (mVar 1) (mCons (mVar 2) (mCons (mVar 4) mNil)))))
 (mRet (mAnd (mBin fEq (mCall (f1 gLen) (mCons (mVar 8) mNil)) (mBin fAdd (mVar 4) (mCst (.int 1)))) (mAnd (mBin fEq (mBin fIx (mVar 8) (mCst (.int 0))) (mBin fMul (mTup (mCons (mCst (.int 0)) mNil)) (mCall (f1 gLen) (mCons (mVar 6) mNil)))) (mBin fEq (mBin fIx (mBin fIx (mVar 8) (mVar 4)) (mBin fIdx (mVar 6) (mVar 0))) (mVar 16)))))))))))))) := rfl
theorem stays_sim (ok : GpOk g) (nu : NuOk g u) (hs : s < g.B) {FG FL FS FW FB FP FV FY : MF} {K : Nat} (hK : K ≤ 2) {l : List D} {w0 : List Nat} {d : D} {r r' : Rw}
    (hl : l.length = g.n) (h1 : FL [g.gs s] r = some (⟨.lst l, .new⟩, r)) (h2 : FG [.int g.n] r = some (⟨grD g, .new⟩, r))
    (h3 : ∀ i j r, i < g.B → j < g.S → FS [g.gs i, g.st j] r = some (⟨g.gs (g.nx i j), .dat⟩, r)) (h4 : ∀ i r, i < g.B → FW [g.gs i, u.lk] r = some (⟨.int (u.W i), .dat⟩, r))
    (hv : valid g w0) (hwl : w0.length = K) (ht : tot g u s w0 = Tb g u K s) (h5 : FB [g.gs s, u.lk, u.ps, .int K] r = some (⟨bestD g (Tb g u K s) w0, .dat⟩, r))
    (hd : d ∈ (allw g K).map (rD g u s)) (h6 : FP [.row, rsD g u s (allw g K)] r = some (⟨d, .dat⟩, r'))
    (h7 : ∀ v c, StayV g u s K (Tb g u K s) v c → FV [g.gs s, u.lk, u.ps, .int K, v] r' = some (⟨.bl c, .dat⟩, r'))
    (h8 : FY [u.lk, u.ps, .int K] r' = some (⟨.tup ((List.range (K + 1)).map (rowD g u)), .dat⟩, r')) :
    (mSeq (mPar [6, 7] (mCons (mFn 1 FG (mCons (mCall (f1 gLen) (mCons (mFn 1 FL (mCons (mVar 0) mNil)) mNil)) mNil)) (mCons (mCall gListA (mCons (mVar 3) mNil)) mNil)))
 (mSeq (mAsg 8 (mLst (mCons (mTup (mCons (mTup mNil) (mCons (mVar 0) (mCons (mCst (.int 0)) mNil)))) mNil)))
 (mSeq (mForS (.one 9) (mRng1 (mCons (mVar 4) mNil)) (mSeq (mAsg 10 (mLst mNil)) (mSeq (mFrz 8 (mForS (.many [11, 12, 13]) (mIt (mVar 8)) (mFrz 7 (mForS (.one 14) (mIt (mVar 7)) (syStep FS FW))))) (mFrz 10 (mAsg 8 (mVar 10))))))
 (mSeq (mPar [16, 17] (mCons (mCall (f1 gMax) (mCons (mLc (.one 11) [11] (mIt (mVar 8)) mYes (mBin fIx (mVar 11) (mCst (.int 2)))) mNil)) (mCons (mFn 4 FB (mCons (mVar 0) (mCons (mVar 1) (mCons (mVar 2) (mCons (mVar 4) mNil))))) mNil)))
 (mSeq (mAsg 18 (mLc (.one 11) [11] (mIt (mVar 8)) (mTb (mBin fEq (mBin fIx (mVar 11) (mCst (.int 2))) (mVar 16))) (mBin fIx (mVar 11) (mCst (.int 0)))))
 (mSeq (mIfS (mTOr (mTNot (mTb (mIs isTupD (mVar 17)))) (mTOr (mTb (mBin fNe (mCall (f1 gLen) (mCons (mVar 17) mNil)) (mCst (.int 2)))) (mTOr (mTb (mBin fNe (mBin fIx (mVar 17) (mCst (.int 0))) (mVar 16))) (mTb (mBin (fIn true) (mBin fIx (mVar 17) (mCst (.int 1))) (mVar 18))))))
 (mRet (mCst (.bl false)))
 mNext)
 (mSeq (mAsg 19 (mBin fIx (mVar 17) (mCst (.int 1))))
 (mSeq (mFrz 8 (mForS (.one 20) (mIt (valsM FP)) (valBody FV)))
 (mSeq (mAsg 8 (mFn 3 FY (mCons (mVar 1) (mCons (mVar 2) (mCons (mVar 4) mNil)))))
 (mRet (mAnd (mBin fEq (mCall (f1 gLen) (mCons (mVar 8) mNil)) (mBin fAdd (mVar 4) (mCst (.int 1)))) (mAnd (mBin fEq (mBin fIx (mVar 8) (mCst (.int 0))) (mBin fMul (mTup (mCons (mCst (.int 0)) mNil)) (mCall (f1 gLen) (mCons (mVar 6) mNil)))) (mBin fEq (mBin fIx (mBin fIx (mVar 8) (mVar 4)) (mBin fIdx (mVar 6) (mVar 0))) (mVar 16)))))))))))))) ⟨slZ g u s K none none none none none [none, none, none, none, none, none, none, none, none, none, none], r⟩ = some (.rt ⟨.bl true, .dat⟩, r') := by
  refine (mSeq_nx (sA ok hl h1 h2)).trans ((mSeq_nx sB).trans ?_)
  obtain ⟨c7, c8, c9, c10, c11, c12, c13, c14, c15, w1, w2, w3⟩ := sy_rows (a6 := some (.own (grD g))) (a7 := some (.own (stD g))) (a8 := some (.own (rsD g u s [[]]))) (a9 := none) (a10 := none) (a11 := none) (a12 := none) (a13 := none) (a14 := none) (a15 := none) (t := [none, none, none, none, none, none]) (r := r) ok nu hs h3 h4 hK (.inr rfl) (.inr rfl)
  refine (mSeq_nx w1).trans ?_
  refine (mSeq_nx (sD ok nu hK w3 (tot_max ok nu hv hwl ht) h5)).trans ?_
  refine (mSeq_nx (sE ok hK w3)).trans ?_
  refine (mSeq_if0 (sF ok hv hwl ht)).trans ?_
  refine (mSeq_nx sG).trans ?_
  obtain ⟨c20, c21, w4⟩ := sH (u := u) (s := s) ok (F := FP) (FB := FV) hK (b := Tb g u K s) hv hwl (a6 := some (.own (grD g))) (a7 := c7) (a8 := c8) (a9 := c9) (a10 := c10) (a11 := c11) (a12 := c12) (a13 := c13) (a14 := c14) (a15 := c15) (a18 := some (.own (goodD g u s K (Tb g u K s)))) (a20 := none) (a21 := none) w3 (.inr rfl) hd h6 h7
  refine (mSeq_nx w4).trans ?_
  have s9 := e_asg (S := slV g u s K (Tb g u K s) w0 (some (.own (grD g))) c7 (some (.dat (rsD g u s (allw g K)))) c9 c10 c11 c12 c13 c14 c15 (some (.own (goodD g u s K (Tb g u K s)))) c20 c21) (r := r') (i := 8) (e_fn (n := 3) (F := FY) (e_cons (e_var (i := 1) rfl) (e_cons (e_var (i := 2) rfl) (e_cons (e_var (i := 4) rfl) e_nil))) rfl rfl h8 rfl) rfl
  exact (mSeq_nx s9).trans (sJ ok hs rfl)
theorem stays_ok (ok : GpOk g) (nu : NuOk g u) (hs : s < g.B) (ns : List Int) {K : Nat} (h1 : 1 ≤ K) (hK : K ≤ 2) {r : Rw} (hr : 0 ≤ r.i) : ∃ r', f__law_stays ns [g.gs s, u.lk, u.ps, .dT (tabL g u), .int K, .row] r = some (⟨.bl true, .dat⟩, r') := by
  obtain ⟨l, hl, hlab⟩ := ok.labels s r hs
  obtain ⟨w0, hb, hv, hwl, ht⟩ := best_stay_ok ok nu hs h1 (by omega) r
  have hlen : ((allw g K).map (rD g u s)).length ≤ 36 := by rw [List.length_map]; exact allw_lim ok hK
  have hpos : 0 < ((allw g K).map (rD g u s)).length := by
    rw [List.length_map]
    exact List.length_pos_of_mem (allw_mem.mpr ⟨hv, hwl⟩)
  obtain ⟨d, r', hd, hp, _⟩ := pick_ok ns hpos (by omega) hr
  refine ⟨r', mBody_rt (sl := slZ g u s K none none none none none [none, none, none, none, none, none, none, none, none, none, none]) rfl ?_⟩
  rw [stays_eq]
  exact stays_sim ok nu hs hK hl hlab (ok.lgroups r) ok.lstep nu.lworth hv hwl ht hb hd hp (fun v c h => shows_stay_ok ok nu hs h1 (by omega) h) (stay_worths_ok ok nu h1 (by omega) r')
end
end GD
/-! Ia -/
set_option maxHeartbeats 4000000
/-! Ia: mirrors that leave the draws' row alone. -/
namespace GD
open PySem L2
abbrev r00 : Rw := ⟨0, 0, 0⟩
def Pu {α : Type} (m : MS → Option (α × Rw)) : Prop := ∀ sl r, m ⟨sl, r⟩ = (m ⟨sl, r00⟩).map fun p => (p.1, r)
def PuI (m : MI) : Prop := ∀ sl r, m ⟨sl, r⟩ = (m ⟨sl, r00⟩).map fun p => (p.1, p.2.1, r)
def PuF (F : MF) : Prop := ∀ ds r, F ds r = (F ds r00).map fun p => (p.1, r)
theorem Pu.rw {α : Type} {m : MS → Option (α × Rw)} (h : Pu m) {sl : Sl} {a : α} {r : Rw} (e : m ⟨sl, r00⟩ = some (a, r)) : r = r00 := by
  have h1 := h sl r00
  rw [e] at h1
  cases h1
  rfl
/-- bind -/
theorem pu_bind {α β : Type} {m : MS → Option (α × Rw)} {f : α → MS → Option (β × Rw)} (hm : Pu m) (hf : ∀ a, Pu (f a)) : Pu fun s => (m s).bind fun p => f p.1 ⟨s.sl, p.2⟩ := by
  intro sl r
  simp only
  rw [hm sl r]
  cases hq : m ⟨sl, r00⟩ with
  | none => rfl
  | some p =>
    obtain ⟨a, r1⟩ := p
    have := hm.rw hq
    subst this
    exact hf a sl r
theorem pu_map {α β : Type} {m : MS → Option (α × Rw)} {f : α → Option β} (hm : Pu m) : Pu fun s => (m s).bind fun p => (f p.1).map fun e => (e, p.2) := by
  refine pu_bind (f := fun a s => (f a).map fun e => (e, s.rw)) hm fun a sl r => ?_
  simp only
  cases f a <;> rfl
theorem pu_some {α : Type} {a : α} : Pu fun s => some (a, s.rw) := fun sl r => rfl
theorem pu_none {α : Type} : Pu fun _ => (none : Option (α × Rw)) := fun sl r => rfl
theorem pu_var {i : Nat} : Pu (mVar i) := by
  intro sl r
  unfold mVar
  simp only
  split <;> rfl
theorem pu_cst {d : D} : Pu (mCst d) := fun sl r => rfl
theorem pu_bin {f : D → D → Option EV} {A B : ME} (hA : Pu A) (hB : Pu B) : Pu (mBin f A B) :=
  pu_bind (f := fun (a : EV) (s : MS) => (B s).bind fun (q : EV × Rw) => (f a.d q.1.d).map fun e => (e, q.2)) hA fun a => pu_map (f := fun q : EV => f a.d q.d) hB
theorem pu_tb {A : ME} (hA : Pu A) : Pu (mTb A) := by
  intro sl r
  unfold mTb
  rw [hA sl r]
  cases hq : A ⟨sl, r00⟩ with
  | none => rfl
  | some p =>
    obtain ⟨⟨d, k⟩, r1⟩ := p
    have := hA.rw hq
    subst this
    cases d <;> rfl
theorem pu_tr {A : ME} (hA : Pu A) : Pu (mTr A) := pu_map (f := fun p : EV => truD p.d) hA
theorem pu_not {A : MT} (hA : Pu A) : Pu (mTNot A) := by
  intro sl r
  unfold mTNot
  rw [hA sl r]
  cases A ⟨sl, r00⟩ <;> rfl
theorem pu_or {A B : MT} (hA : Pu A) (hB : Pu B) : Pu (mTOr A B) :=
  pu_bind (f := fun (a : Bool) (s : MS) => if a = true then some (true, s.rw) else B s) hA fun a => by
    cases a
    · exact hB
    · exact pu_some
theorem pu_eand {A B : ME} (hA : Pu A) (hB : Pu B) : Pu (mAnd A B) := by
  intro sl r
  unfold mAnd
  simp only
  rw [hA sl r]
  cases hq : A ⟨sl, r00⟩ with
  | none => rfl
  | some p =>
    obtain ⟨⟨d, k⟩, r1⟩ := p
    have := hA.rw hq
    subst this
    cases d <;> try rfl
    rename_i b
    cases b
    · rfl
    · exact hB sl r
theorem pu_enot {A : ME} (hA : Pu A) : Pu (mNot A) := by
  intro sl r
  unfold mNot
  rw [hA sl r]
  cases hq : A ⟨sl, r00⟩ with
  | none => rfl
  | some p =>
    obtain ⟨⟨d, k⟩, r1⟩ := p
    have := hA.rw hq
    subst this
    cases d <;> rfl
theorem pu_chain {f g : D → D → Option EV} {A B C : ME} (hA : Pu A) (hB : Pu B) (hC : Pu C) : Pu (mChain f g A B C) := by
  intro sl r
  unfold mChain
  simp only
  rw [hA sl r]
  cases hq : A ⟨sl, r00⟩ with
  | none => rfl
  | some p =>
    obtain ⟨e, r1⟩ := p
    have := hA.rw hq
    subst this
    simp only [Option.map_some, Option.bind_some]
    rw [hB sl r]
    cases hq2 : B ⟨sl, r00⟩ with
    | none => rfl
    | some p2 =>
      obtain ⟨e2, r2⟩ := p2
      have := hB.rw hq2
      subst this
      simp only [Option.map_some, Option.bind_some]
      cases hf : f e.d e2.d with
      | none => rfl
      | some z =>
        simp only [Option.bind_some]
        obtain ⟨zd, zk⟩ := z
        cases zd <;> try rfl
        rename_i b
        cases b
        · rfl
        · simp only
          rw [hC sl r]
          cases hq3 : C ⟨sl, r00⟩ with
          | none => rfl
          | some p3 =>
            obtain ⟨e3, r3⟩ := p3
            have := hC.rw hq3
            subst this
            simp only [Option.map_some, Option.bind_some]
            cases g e2.d e3.d <;> rfl
theorem pu_nil : Pu mNil := fun sl r => rfl
theorem pu_cons {A : ME} {B : MA} (hA : Pu A) (hB : Pu B) : Pu (mCons A B) :=
  pu_bind (f := fun (a : EV) (s : MS) => (B s).map fun (q : List EV × Rw) => (a :: q.1, q.2)) hA fun a sl r => by
    simp only
    rw [hB sl r]
    cases B ⟨sl, r00⟩ <;> rfl
theorem pu_lst {B : MA} (hB : Pu B) : Pu (mLst B) :=
  pu_bind (f := fun (a : List EV) (s : MS) => if (noBor a && decide (a.length ≤ lim)) = true then some ((⟨.lst (a.map fun (e : EV) => e.d), .new⟩ : EV), s.rw) else none) hB fun a sl r => by
    simp only
    split <;> rfl
theorem pu_call {f : List D → Option EV} {B : MA} (hB : Pu B) : Pu (mCall f B) := pu_map (f := fun p : List EV => f (p.map fun (e : EV) => e.d)) hB
theorem pu_is {f : D → Option Bool} {A : ME} (hA : Pu A) : Pu (mIs f A) :=
  pu_bind (f := fun (a : EV) (s : MS) => (f a.d).map fun t => (evB t, s.rw)) hA fun a sl r => by
    simp only
    cases f a.d <;> rfl
theorem pu_listRg {A : ME} (hA : Pu A) : Pu (mListRg A) := by
  intro sl r
  unfold mListRg
  rw [hA sl r]
  cases hq : A ⟨sl, r00⟩ with
  | none => rfl
  | some p =>
    obtain ⟨⟨d, k⟩, r1⟩ := p
    have := hA.rw hq
    subst this
    cases d <;> try rfl
    simp only [Option.map_some, Option.bind_some]
    split <;> rfl
theorem pu_fn {n : Nat} {F : MF} {B : MA} (hB : Pu B) (hF : PuF F) : Pu (mFn n F B) :=
  pu_bind (f := fun (a : List EV) (s : MS) => if (noBor a && decide (a.length = n)) = true then (F (a.map fun (e : EV) => e.d) s.rw).bind fun (q : EV × Rw) => if noBorK q.1 = true then some q else none else none) hB fun a sl r => by
    simp only
    split
    · rw [hF _ r]
      cases hq : F (a.map fun (e : EV) => e.d) r00 with
      | none => rfl
      | some p =>
        have h1 := hF (a.map fun (e : EV) => e.d) r00
        obtain ⟨e, r1⟩ := p
        rw [hq] at h1
        cases h1
        simp only [Option.map_some, Option.bind_some]
        split <;> rfl
    · rfl
theorem pu_body {n : Nat} {m : MSt} (h : Pu m) : PuF (mBody n m) := by
  intro ds r
  unfold mBody
  rw [h _ r]
  cases hq : m ⟨ds.map (fun d => some (.dat d)) ++ List.replicate (n - ds.length) none, r00⟩ with
  | none => rfl
  | some p =>
    obtain ⟨fl, r1⟩ := p
    have := h.rw hq
    subst this
    cases fl <;> rfl
theorem pu_seq {a b : MSt} (ha : Pu a) (hb : Pu b) : Pu (mSeq a b) := by
  intro sl r
  unfold mSeq
  rw [ha sl r]
  cases hq : a ⟨sl, r00⟩ with
  | none => rfl
  | some p =>
    obtain ⟨fl, r1⟩ := p
    have := ha.rw hq
    subst this
    cases fl
    · exact hb _ r
    all_goals rfl
theorem pu_next : Pu mNext := fun sl r => rfl
theorem pu_never : Pu mNever := fun sl r => rfl
theorem pu_ifS {t : MT} {a b : MSt} (ht : Pu t) (ha : Pu a) (hb : Pu b) : Pu (mIfS t a b) :=
  pu_bind (f := fun (p : Bool) (s : MS) => if p = true then a s else b s) ht fun p => by
    cases p
    · exact hb
    · exact ha
theorem pu_ret {A : ME} (hA : Pu A) : Pu (mRet A) :=
  pu_bind (f := fun (p : EV) (s : MS) => if noBorK p = true then some (Fl.rt p, s.rw) else none) hA fun p sl r => by
    simp only
    split <;> rfl
theorem pu_retVar {i : Nat} : Pu (mRetVar i) := by
  intro sl r
  unfold mRetVar
  simp only
  split <;> rfl
theorem pu_asg {i : Nat} {A : ME} (hA : Pu A) : Pu (mAsg i A) :=
  pu_bind (f := fun (p : EV) (s : MS) => (kept p).map fun sv => (Fl.nx (s.sl.set i (some sv)), s.rw)) hA fun p sl r => by
    simp only
    cases kept p <;> rfl
theorem pu_it {A : ME} (hA : Pu A) : PuI (mIt A) := by
  intro sl r
  unfold mIt
  rw [hA sl r]
  cases hq : A ⟨sl, r00⟩ with
  | none => rfl
  | some p =>
    obtain ⟨e, r1⟩ := p
    have := hA.rw hq
    subst this
    simp only [Option.map_some, Option.bind_some]
    cases itD e.d <;> rfl
theorem pu_rng1 {B : MA} (hB : Pu B) : PuI (mRng1 B) := by
  intro sl r
  unfold mRng1
  rw [hB sl r]
  cases hq : B ⟨sl, r00⟩ with
  | none => rfl
  | some p =>
    obtain ⟨es, r1⟩ := p
    have := hB.rw hq
    subst this
    simp only [Option.map_some, Option.bind_some]
    split
    · split <;> rfl
    · rfl
theorem pu_zip {B : MA} (hB : Pu B) : PuI (mZip B) := by
  intro sl r
  unfold mZip
  rw [hB sl r]
  cases hq : B ⟨sl, r00⟩ with
  | none => rfl
  | some p =>
    obtain ⟨es, r1⟩ := p
    have := hB.rw hq
    subst this
    simp only [Option.map_some, Option.bind_some]
    split
    · split <;> rfl
    · rfl
theorem PuI.rw {m : MI} (h : PuI m) {sl : Sl} {a : List D} {b : Bool} {r : Rw} (e : m ⟨sl, r00⟩ = some (a, b, r)) : r = r00 := by
  have h1 := h sl r00
  rw [e] at h1
  cases h1
  rfl
theorem pu_for {t : Tg} {body : MSt} (h : Pu body) : ∀ (L : List D) (sl : Sl) (r : Rw), mFor t body L sl r = (mFor t body L sl r00).map fun p => (p.1, r)
  | [], sl, r => rfl
  | d :: L, sl, r => by
    simp only [mFor]
    cases bindT t sl d with
    | none => rfl
    | some sl1 =>
      simp only [Option.bind_some]
      rw [h sl1 r]
      cases hq : body ⟨sl1, r00⟩ with
      | none => rfl
      | some p =>
        obtain ⟨fl, r1⟩ := p
        have := h.rw hq
        subst this
        cases fl
        · exact pu_for h L _ r
        · rfl
        · rfl
        · exact pu_for h L _ r
theorem pu_forS {t : Tg} {mi : MI} {body : MSt} (hi : PuI mi) (h : Pu body) : Pu (mForS t mi body) := by
  intro sl r
  unfold mForS
  rw [hi sl r]
  cases hq : mi ⟨sl, r00⟩ with
  | none => rfl
  | some p =>
    obtain ⟨L, b, r1⟩ := p
    have := hi.rw hq
    subst this
    simp only [Option.map_some, Option.bind_some]
    cases b
    · rfl
    · exact pu_for h L sl r
theorem pu_vals {t : Tg} {me : ME} (h : Pu me) {slw : Sl} {r : Rw} : ∀ L : List D, gVals t me slw r L = gVals t me slw r00 L
  | [] => rfl
  | d :: L => by
    simp only [gVals]
    cases bindT t slw d with
    | none => rfl
    | some sl1 =>
      simp only [Option.bind_some]
      rw [h sl1 r]
      cases hq : me ⟨sl1, r00⟩ with
      | none => rfl
      | some p =>
        obtain ⟨e, r1⟩ := p
        have := h.rw hq
        subst this
        simp only [Option.map_some, Option.bind_some, if_true]
        rw [pu_vals h L]
theorem pu_gen {α : Type} {t : Tg} {vs : List Nat} {mi : MI} {me : ME} {f : List D → Option α} {out : α → EV} (hi : PuI mi) (h : Pu me) : Pu (mGen t vs mi me f out) := by
  intro sl r
  unfold mGen
  simp only
  rw [hi sl r]
  cases hq : mi ⟨sl, r00⟩ with
  | none => rfl
  | some p =>
    obtain ⟨L, b, r1⟩ := p
    have := hi.rw hq
    subst this
    simp only [Option.map_some, Option.bind_some]
    rw [pu_vals h]
    cases gVals t me (wipeS sl vs) r00 L with
    | none => rfl
    | some l =>
      simp only [Option.bind_some]
      cases f l <;> rfl
theorem pu_rng2 {B : MA} (hB : Pu B) : PuI (mRng2 B) := by
  intro sl r
  unfold mRng2
  rw [hB sl r]
  cases hq : B ⟨sl, r00⟩ with
  | none => rfl
  | some p =>
    obtain ⟨es, r1⟩ := p
    have := hB.rw hq
    subst this
    simp only [Option.map_some, Option.bind_some]
    split
    · split <;> rfl
    · rfl
theorem pu_tup {B : MA} (hB : Pu B) : Pu (mTup B) :=
  pu_bind (f := fun (a : List EV) (s : MS) => if (noBor a && decide (a.length ≤ lim)) = true then some ((⟨.tup (a.map fun (e : EV) => e.d), .dat⟩ : EV), s.rw) else none) hB fun a sl r => by
    simp only
    split <;> rfl
theorem pu_yes : Pu mYes := fun sl r => rfl
theorem pu_lcGo {t : Tg} {mt : MT} {me : ME} (ht : Pu mt) (h : Pu me) {slw : Sl} : ∀ (L : List D) (r : Rw) (acc : List D), mLcGo t mt me slw L r acc = (mLcGo t mt me slw L r00 acc).map fun p => (p.1, r)
  | [], r, acc => rfl
  | d :: L, r, acc => by
    simp only [mLcGo]
    cases bindT t slw d with
    | none => rfl
    | some sl1 =>
      simp only [Option.bind_some]
      rw [ht sl1 r]
      cases hq : mt ⟨sl1, r00⟩ with
      | none => rfl
      | some p =>
        obtain ⟨b, r1⟩ := p
        have := ht.rw hq
        subst this
        simp only [Option.map_some, Option.bind_some]
        cases b
        · exact pu_lcGo ht h L r acc
        · simp only [if_true]
          rw [h sl1 r]
          cases hq2 : me ⟨sl1, r00⟩ with
          | none => rfl
          | some p2 =>
            obtain ⟨e, r2⟩ := p2
            have := h.rw hq2
            subst this
            simp only [Option.map_some, Option.bind_some]
            split
            · exact pu_lcGo ht h L r _
            · rfl
theorem pu_lc {t : Tg} {vs : List Nat} {mi : MI} {mt : MT} {me : ME} (hi : PuI mi) (ht : Pu mt) (h : Pu me) : Pu (mLc t vs mi mt me) := by
  intro sl r
  unfold mLc
  simp only
  rw [hi sl r]
  cases hq : mi ⟨sl, r00⟩ with
  | none => rfl
  | some p =>
    obtain ⟨L, b, r1⟩ := p
    have := hi.rw hq
    subst this
    simp only [Option.map_some, Option.bind_some]
    rw [pu_lcGo ht h]
    cases mLcGo t mt me (wipeS sl vs) L r00 [] <;> rfl
theorem pu_is_in : PuF f_is_in := pu_body (pu_ret (pu_eand (pu_is pu_var) (pu_eand (pu_enot (pu_is pu_var)) (pu_chain pu_var pu_var pu_var))))
theorem pu_is_lot : PuF f_is_lot := pu_body (pu_seq (pu_ifS (pu_or (pu_not (pu_tb (pu_is pu_var))) (pu_or (pu_not (pu_tr pu_var)) (pu_not (pu_tb (pu_gen (pu_it pu_var) (pu_fn (pu_cons pu_var (pu_cons pu_cst (pu_cons (pu_bin pu_var pu_cst) pu_nil))) pu_is_in)))))) (pu_ret pu_cst) pu_next)
  (pu_ret (pu_gen (pu_rng1 (pu_cons (pu_bin (pu_call (pu_cons pu_var pu_nil)) pu_cst) pu_nil)) (pu_bin (pu_bin pu_var pu_var) (pu_bin pu_var (pu_bin pu_var pu_cst))))))
theorem pu_is_grouping : PuF f_is_grouping := pu_body (pu_seq (pu_ifS (pu_or (pu_not (pu_tb (pu_is pu_var))) (pu_or (pu_not (pu_tr pu_var)) (pu_not (pu_tb (pu_gen (pu_it pu_var) (pu_fn (pu_cons pu_cst (pu_cons pu_var pu_nil)) pu_is_lot)))))) (pu_ret pu_cst) pu_next)
  (pu_seq (pu_asg (pu_lst pu_nil)) (pu_seq (pu_forS (pu_it pu_var) (pu_asg (pu_bin pu_var (pu_call (pu_cons pu_var pu_nil)))))
  (pu_seq (pu_ifS (pu_tb (pu_bin (pu_call (pu_cons pu_var pu_nil)) (pu_listRg (pu_call (pu_cons pu_var pu_nil))))) (pu_ret pu_cst) pu_next)
  (pu_ret (pu_gen (pu_rng1 (pu_cons (pu_bin (pu_call (pu_cons pu_var pu_nil)) pu_cst) pu_nil)) (pu_bin (pu_bin pu_var pu_var) (pu_bin pu_var (pu_bin pu_var pu_cst)))))))))
theorem pu_size_of : PuF f_size_of := pu_body (pu_ret (pu_gen (pu_it pu_var) (pu_call (pu_cons pu_var pu_nil))))
theorem pu_need_grouping : PuF f_need_grouping := pu_body (pu_ifS (pu_not (pu_tb (pu_fn (pu_cons pu_var pu_nil) pu_is_grouping))) pu_never pu_next)
theorem pu_is_step : PuF f_is_step := pu_body (pu_ret (pu_eand (pu_fn (pu_cons pu_var (pu_cons pu_var pu_nil)) pu_is_lot) (pu_bin (pu_call (pu_cons pu_var pu_nil)) pu_cst)))
theorem pu_pairs_of : PuF f_pairs_of := pu_body (pu_seq (pu_asg (pu_lst pu_nil)) (pu_seq (pu_forS (pu_rng1 (pu_cons pu_var pu_nil)) (pu_asg (pu_bin pu_var (pu_lc (pu_rng2 (pu_cons (pu_bin pu_var pu_cst) (pu_cons pu_var pu_nil))) pu_yes (pu_tup (pu_cons pu_var (pu_cons pu_var pu_nil))))))) pu_retVar))
theorem pu_worth_of : PuF f_worth_of := pu_body (pu_seq (pu_asg pu_cst) (pu_seq (pu_forS (pu_zip (pu_cons (pu_fn (pu_cons (pu_fn (pu_cons pu_var pu_nil) pu_size_of) pu_nil) pu_pairs_of) (pu_cons pu_var pu_nil)))
  (pu_ifS (pu_tb (pu_gen (pu_it pu_var) (pu_eand (pu_bin (pu_bin pu_var pu_cst) pu_var) (pu_bin (pu_bin pu_var pu_cst) pu_var)))) (pu_asg (pu_bin pu_var pu_var)) pu_next)) pu_retVar))
theorem PuF.at {F : MF} (h : PuF F) {ds : List D} {e : EV} (e0 : F ds r00 = some (e, r00)) (r : Rw) : F ds r = some (e, r) := by
  rw [h ds r, e0]; rfl
end GD
/-! Ib -/
set_option maxHeartbeats 4000000
/-! Ib: the groupings and steps of sizes 1 to 3. -/
namespace GD
open PySem L2
theorem lt1 {i : Nat} (h : i < 1) : i = 0 := by omega
theorem lt2 {i : Nat} (h : i < 2) : i = 0 ∨ i = 1 := by omega
theorem lt3 {i : Nat} (h : i < 3) : i = 0 ∨ i = 1 ∨ i = 2 := by omega
theorem lt5 {i : Nat} (h : i < 5) : i = 0 ∨ i = 1 ∨ i = 2 ∨ i = 3 ∨ i = 4 := by omega
theorem lt6 {i : Nat} (h : i < 6) : i = 0 ∨ i = 1 ∨ i = 2 ∨ i = 3 ∨ i = 4 ∨ i = 5 := by omega
def GL1 : List D := [.tup [.tup [.int 0]]]
def SL1 : List D := [.tup [.int 0]]
def NL1 : List (List Nat) := [[0]]
def LL1 : List (List D) := [[.int 0]]
def g1 : Gp := ⟨1, 1, 1, fun i => GL1.getD i .non, fun j => SL1.getD j .non, fun i j => (NL1.getD i []).getD j 0⟩
theorem g1_nxlt : ∀ i j, i < g1.B → j < g1.S → g1.nx i j < g1.B := by
  intro i j hi hj
  cases lt1 hi <;> cases lt1 hj <;> decide
theorem g1_step : ∀ i j r, i < g1.B → j < g1.S → f_stepped [g1.gs i, g1.st j] r = some (⟨g1.gs (g1.nx i j), .dat⟩, r) := by
  intro i j r hi hj
  cases lt1 hi <;> cases lt1 hj <;> kernel_rfl
theorem g1_lstep : ∀ i j r, i < g1.B → j < g1.S → f__law_step [g1.gs i, g1.st j] r = some (⟨g1.gs (g1.nx i j), .dat⟩, r) := by
  intro i j r hi hj
  cases lt1 hi <;> cases lt1 hj <;> kernel_rfl
theorem g1_gkey : ∀ i, i < g1.B → keyOk (g1.gs i) = true := by
  intro i hi
  cases lt1 hi <;> kernel_rfl
theorem g1_skey : ∀ i, i < g1.S → keyOk (g1.st i) = true := by
  intro i hi
  cases lt1 hi <;> kernel_rfl
theorem g1_gkeq : ∀ i i', i < g1.B → i' < g1.B → keq (g1.gs i) (g1.gs i') = decide (i = i') := by
  intro i j hi hj
  cases lt1 hi <;> cases lt1 hj <;> kernel_rfl
theorem g1_skeq : ∀ i i', i < g1.S → i' < g1.S → keq (g1.st i) (g1.st i') = decide (i = i') := by
  intro i j hi hj
  cases lt1 hi <;> cases lt1 hj <;> kernel_rfl
theorem g1_geq : ∀ i i', i < g1.B → i' < g1.B → eqD (g1.gs i) (g1.gs i') = decide (i = i') := by
  intro i j hi hj
  cases lt1 hi <;> cases lt1 hj <;> kernel_rfl
theorem g1_seq : ∀ i i', i < g1.S → i' < g1.S → eqD (g1.st i) (g1.st i') = decide (i = i') := by
  intro i j hi hj
  cases lt1 hi <;> cases lt1 hj <;> kernel_rfl
theorem g1_gle : ∀ i i', i < g1.B → i' < g1.B → leD (g1.gs i) (g1.gs i') = decide (i ≤ i') := by
  intro i j hi hj
  cases lt1 hi <;> cases lt1 hj <;> kernel_rfl
theorem g1_galike : ∀ i i', i < g1.B → i' < g1.B → PySem.W.alike (py (g1.gs i)) (py (g1.gs i')) = true := by
  intro i j hi hj
  cases lt1 hi <;> cases lt1 hj <;> kernel_rfl
theorem g1_gshp : ∀ i, i < g1.B → shp (g1.gs i) = true ∧ (py (g1.gs i)).depth ≤ 8 ∧ tupNE (g1.gs i) = true := by
  intro i hi
  cases lt1 hi <;> exact ⟨by kernel_rfl, by decide +kernel, by kernel_rfl⟩
theorem g1_sshp : ∀ i, i < g1.S → shp (g1.st i) = true ∧ (py (g1.st i)).depth ≤ 8 := by
  intro i hi
  cases lt1 hi <;> exact ⟨by kernel_rfl, by decide +kernel⟩
theorem g1_badst : ∀ i, i < g1.S → eqD (g1.st i) (.tup [.int g1.n]) = false := by
  intro i hi
  cases lt1 hi <;> kernel_rfl
theorem g1_size : ∀ i r, i < g1.B → f_size_of [g1.gs i] r = some (⟨.int g1.n, .dat⟩, r) := by
  intro i r hi
  cases lt1 hi <;> exact pu_size_of.at (by kernel_rfl) r
theorem g1_lab1 : ∀ i, i < g1.B → (LL1.getD i []).length = g1.n := by
  intro i hi
  cases lt1 hi <;> kernel_rfl
theorem g1_lab2 : ∀ i r, i < g1.B → f__law_labels [g1.gs i] r = some (⟨.lst (LL1.getD i []), .new⟩, r) := by
  intro i r hi
  cases lt1 hi <;> kernel_rfl
theorem g1_needg : ∀ i r, i < g1.B → f_need_grouping [g1.gs i] r = some (⟨.non, .dat⟩, r) := by
  intro i r hi
  cases lt1 hi <;> exact pu_need_grouping.at (by kernel_rfl) r
theorem g1_isstep : ∀ j r, j < g1.S → f_is_step [.int g1.n, g1.st j] r = some (⟨.bl true, .dat⟩, r) := by
  intro i r hi
  cases lt1 hi <;> exact pu_is_step.at (by kernel_rfl) r
theorem ok1 : GpOk g1 where
  nxlt := g1_nxlt
  step := g1_step
  lstep := g1_lstep
  gkey := g1_gkey
  skey := g1_skey
  gkeq := g1_gkeq
  skeq := g1_skeq
  geq := g1_geq
  seq := g1_seq
  gle := g1_gle
  galike := g1_galike
  gshp := g1_gshp
  sshp := g1_sshp
  badst := g1_badst
  size := g1_size
  needg := g1_needg
  isstep := g1_isstep
  labels := fun i r hi => ⟨_, g1_lab1 i hi, g1_lab2 i r hi⟩
  b5 := by decide
  s6 := by decide
  s1 := by decide
  n3 := .inl rfl
  bsort := by kernel_rfl
  steps := fun r => by kernel_rfl
  lsteps := fun r => by kernel_rfl
  groups := fun r => by kernel_rfl
  lgroups := fun r => by kernel_rfl
  badstep := fun r => pu_is_step.at (by kernel_rfl) r
def GL2 : List D := [.tup [.tup [.int 0], .tup [.int 1]], .tup [.tup [.int 0, .int 1]]]
def SL2 : List D := [.tup [.int 0], .tup [.int 0, .int 1], .tup [.int 1]]
def NL2 : List (List Nat) := [[0, 1, 0], [0, 1, 0]]
def LL2 : List (List D) := [[.int 0, .int 1], [.int 0, .int 0]]
def g2 : Gp := ⟨2, 2, 3, fun i => GL2.getD i .non, fun j => SL2.getD j .non, fun i j => (NL2.getD i []).getD j 0⟩
theorem g2_nxlt : ∀ i j, i < g2.B → j < g2.S → g2.nx i j < g2.B := by
  intro i j hi hj
  rcases lt2 hi with rfl | rfl <;> rcases lt3 hj with rfl | rfl | rfl <;> decide
theorem g2_step : ∀ i j r, i < g2.B → j < g2.S → f_stepped [g2.gs i, g2.st j] r = some (⟨g2.gs (g2.nx i j), .dat⟩, r) := by
  intro i j r hi hj
  rcases lt2 hi with rfl | rfl <;> rcases lt3 hj with rfl | rfl | rfl <;> kernel_rfl
theorem g2_lstep : ∀ i j r, i < g2.B → j < g2.S → f__law_step [g2.gs i, g2.st j] r = some (⟨g2.gs (g2.nx i j), .dat⟩, r) := by
  intro i j r hi hj
  rcases lt2 hi with rfl | rfl <;> rcases lt3 hj with rfl | rfl | rfl <;> kernel_rfl
theorem g2_gkey : ∀ i, i < g2.B → keyOk (g2.gs i) = true := by
  intro i hi
  rcases lt2 hi with rfl | rfl <;> kernel_rfl
theorem g2_skey : ∀ i, i < g2.S → keyOk (g2.st i) = true := by
  intro i hi
  rcases lt3 hi with rfl | rfl | rfl <;> kernel_rfl
theorem g2_gkeq : ∀ i i', i < g2.B → i' < g2.B → keq (g2.gs i) (g2.gs i') = decide (i = i') := by
  intro i j hi hj
  rcases lt2 hi with rfl | rfl <;> rcases lt2 hj with rfl | rfl <;> kernel_rfl
theorem g2_skeq : ∀ i i', i < g2.S → i' < g2.S → keq (g2.st i) (g2.st i') = decide (i = i') := by
  intro i j hi hj
  rcases lt3 hi with rfl | rfl | rfl <;> rcases lt3 hj with rfl | rfl | rfl <;> kernel_rfl
theorem g2_geq : ∀ i i', i < g2.B → i' < g2.B → eqD (g2.gs i) (g2.gs i') = decide (i = i') := by
  intro i j hi hj
  rcases lt2 hi with rfl | rfl <;> rcases lt2 hj with rfl | rfl <;> kernel_rfl
theorem g2_seq : ∀ i i', i < g2.S → i' < g2.S → eqD (g2.st i) (g2.st i') = decide (i = i') := by
  intro i j hi hj
  rcases lt3 hi with rfl | rfl | rfl <;> rcases lt3 hj with rfl | rfl | rfl <;> kernel_rfl
theorem g2_gle : ∀ i i', i < g2.B → i' < g2.B → leD (g2.gs i) (g2.gs i') = decide (i ≤ i') := by
  intro i j hi hj
  rcases lt2 hi with rfl | rfl <;> rcases lt2 hj with rfl | rfl <;> kernel_rfl
theorem g2_galike : ∀ i i', i < g2.B → i' < g2.B → PySem.W.alike (py (g2.gs i)) (py (g2.gs i')) = true := by
  intro i j hi hj
  rcases lt2 hi with rfl | rfl <;> rcases lt2 hj with rfl | rfl <;> kernel_rfl
theorem g2_gshp : ∀ i, i < g2.B → shp (g2.gs i) = true ∧ (py (g2.gs i)).depth ≤ 8 ∧ tupNE (g2.gs i) = true := by
  intro i hi
  rcases lt2 hi with rfl | rfl <;> exact ⟨by kernel_rfl, by decide +kernel, by kernel_rfl⟩
theorem g2_sshp : ∀ i, i < g2.S → shp (g2.st i) = true ∧ (py (g2.st i)).depth ≤ 8 := by
  intro i hi
  rcases lt3 hi with rfl | rfl | rfl <;> exact ⟨by kernel_rfl, by decide +kernel⟩
theorem g2_badst : ∀ i, i < g2.S → eqD (g2.st i) (.tup [.int g2.n]) = false := by
  intro i hi
  rcases lt3 hi with rfl | rfl | rfl <;> kernel_rfl
theorem g2_size : ∀ i r, i < g2.B → f_size_of [g2.gs i] r = some (⟨.int g2.n, .dat⟩, r) := by
  intro i r hi
  rcases lt2 hi with rfl | rfl <;> exact pu_size_of.at (by kernel_rfl) r
theorem g2_lab1 : ∀ i, i < g2.B → (LL2.getD i []).length = g2.n := by
  intro i hi
  rcases lt2 hi with rfl | rfl <;> kernel_rfl
theorem g2_lab2 : ∀ i r, i < g2.B → f__law_labels [g2.gs i] r = some (⟨.lst (LL2.getD i []), .new⟩, r) := by
  intro i r hi
  rcases lt2 hi with rfl | rfl <;> kernel_rfl
theorem g2_needg : ∀ i r, i < g2.B → f_need_grouping [g2.gs i] r = some (⟨.non, .dat⟩, r) := by
  intro i r hi
  rcases lt2 hi with rfl | rfl <;> exact pu_need_grouping.at (by kernel_rfl) r
theorem g2_isstep : ∀ j r, j < g2.S → f_is_step [.int g2.n, g2.st j] r = some (⟨.bl true, .dat⟩, r) := by
  intro i r hi
  rcases lt3 hi with rfl | rfl | rfl <;> exact pu_is_step.at (by kernel_rfl) r
theorem ok2 : GpOk g2 where
  nxlt := g2_nxlt
  step := g2_step
  lstep := g2_lstep
  gkey := g2_gkey
  skey := g2_skey
  gkeq := g2_gkeq
  skeq := g2_skeq
  geq := g2_geq
  seq := g2_seq
  gle := g2_gle
  galike := g2_galike
  gshp := g2_gshp
  sshp := g2_sshp
  badst := g2_badst
  size := g2_size
  needg := g2_needg
  isstep := g2_isstep
  labels := fun i r hi => ⟨_, g2_lab1 i hi, g2_lab2 i r hi⟩
  b5 := by decide
  s6 := by decide
  s1 := by decide
  n3 := .inr (.inl rfl)
  bsort := by kernel_rfl
  steps := fun r => by kernel_rfl
  lsteps := fun r => by kernel_rfl
  groups := fun r => by kernel_rfl
  lgroups := fun r => by kernel_rfl
  badstep := fun r => pu_is_step.at (by kernel_rfl) r
def GL3 : List D := [.tup [.tup [.int 0], .tup [.int 1], .tup [.int 2]], .tup [.tup [.int 0], .tup [.int 1, .int 2]], .tup [.tup [.int 0, .int 1], .tup [.int 2]], .tup [.tup [.int 0, .int 1, .int 2]], .tup [.tup [.int 0, .int 2], .tup [.int 1]]]
def SL3 : List D := [.tup [.int 0], .tup [.int 0, .int 1], .tup [.int 0, .int 2], .tup [.int 1], .tup [.int 1, .int 2], .tup [.int 2]]
def NL3 : List (List Nat) := [[0, 2, 4, 0, 1, 0], [1, 3, 3, 0, 1, 0], [0, 2, 3, 0, 3, 2], [1, 3, 3, 4, 3, 2], [0, 3, 4, 4, 3, 0]]
def LL3 : List (List D) := [[.int 0, .int 1, .int 2], [.int 0, .int 1, .int 1], [.int 0, .int 0, .int 1], [.int 0, .int 0, .int 0], [.int 0, .int 1, .int 0]]
def g3 : Gp := ⟨3, 5, 6, fun i => GL3.getD i .non, fun j => SL3.getD j .non, fun i j => (NL3.getD i []).getD j 0⟩
theorem g3_nxlt : ∀ i j, i < g3.B → j < g3.S → g3.nx i j < g3.B := by
  intro i j hi hj
  rcases lt5 hi with rfl | rfl | rfl | rfl | rfl <;> rcases lt6 hj with rfl | rfl | rfl | rfl | rfl | rfl <;> decide
theorem g3_step : ∀ i j r, i < g3.B → j < g3.S → f_stepped [g3.gs i, g3.st j] r = some (⟨g3.gs (g3.nx i j), .dat⟩, r) := by
  intro i j r hi hj
  rcases lt5 hi with rfl | rfl | rfl | rfl | rfl <;> rcases lt6 hj with rfl | rfl | rfl | rfl | rfl | rfl <;> kernel_rfl
theorem g3_lstep : ∀ i j r, i < g3.B → j < g3.S → f__law_step [g3.gs i, g3.st j] r = some (⟨g3.gs (g3.nx i j), .dat⟩, r) := by
  intro i j r hi hj
  rcases lt5 hi with rfl | rfl | rfl | rfl | rfl <;> rcases lt6 hj with rfl | rfl | rfl | rfl | rfl | rfl <;> kernel_rfl
theorem g3_gkey : ∀ i, i < g3.B → keyOk (g3.gs i) = true := by
  intro i hi
  rcases lt5 hi with rfl | rfl | rfl | rfl | rfl <;> kernel_rfl
theorem g3_skey : ∀ i, i < g3.S → keyOk (g3.st i) = true := by
  intro i hi
  rcases lt6 hi with rfl | rfl | rfl | rfl | rfl | rfl <;> kernel_rfl
theorem g3_gkeq : ∀ i i', i < g3.B → i' < g3.B → keq (g3.gs i) (g3.gs i') = decide (i = i') := by
  intro i j hi hj
  rcases lt5 hi with rfl | rfl | rfl | rfl | rfl <;> rcases lt5 hj with rfl | rfl | rfl | rfl | rfl <;> kernel_rfl
theorem g3_skeq : ∀ i i', i < g3.S → i' < g3.S → keq (g3.st i) (g3.st i') = decide (i = i') := by
  intro i j hi hj
  rcases lt6 hi with rfl | rfl | rfl | rfl | rfl | rfl <;> rcases lt6 hj with rfl | rfl | rfl | rfl | rfl | rfl <;> kernel_rfl
theorem g3_geq : ∀ i i', i < g3.B → i' < g3.B → eqD (g3.gs i) (g3.gs i') = decide (i = i') := by
  intro i j hi hj
  rcases lt5 hi with rfl | rfl | rfl | rfl | rfl <;> rcases lt5 hj with rfl | rfl | rfl | rfl | rfl <;> kernel_rfl
theorem g3_seq : ∀ i i', i < g3.S → i' < g3.S → eqD (g3.st i) (g3.st i') = decide (i = i') := by
  intro i j hi hj
  rcases lt6 hi with rfl | rfl | rfl | rfl | rfl | rfl <;> rcases lt6 hj with rfl | rfl | rfl | rfl | rfl | rfl <;> kernel_rfl
theorem g3_gle : ∀ i i', i < g3.B → i' < g3.B → leD (g3.gs i) (g3.gs i') = decide (i ≤ i') := by
  intro i j hi hj
  rcases lt5 hi with rfl | rfl | rfl | rfl | rfl <;> rcases lt5 hj with rfl | rfl | rfl | rfl | rfl <;> kernel_rfl
theorem g3_galike : ∀ i i', i < g3.B → i' < g3.B → PySem.W.alike (py (g3.gs i)) (py (g3.gs i')) = true := by
  intro i j hi hj
  rcases lt5 hi with rfl | rfl | rfl | rfl | rfl <;> rcases lt5 hj with rfl | rfl | rfl | rfl | rfl <;> kernel_rfl
theorem g3_gshp : ∀ i, i < g3.B → shp (g3.gs i) = true ∧ (py (g3.gs i)).depth ≤ 8 ∧ tupNE (g3.gs i) = true := by
  intro i hi
  rcases lt5 hi with rfl | rfl | rfl | rfl | rfl <;> exact ⟨by kernel_rfl, by decide +kernel, by kernel_rfl⟩
theorem g3_sshp : ∀ i, i < g3.S → shp (g3.st i) = true ∧ (py (g3.st i)).depth ≤ 8 := by
  intro i hi
  rcases lt6 hi with rfl | rfl | rfl | rfl | rfl | rfl <;> exact ⟨by kernel_rfl, by decide +kernel⟩
theorem g3_badst : ∀ i, i < g3.S → eqD (g3.st i) (.tup [.int g3.n]) = false := by
  intro i hi
  rcases lt6 hi with rfl | rfl | rfl | rfl | rfl | rfl <;> kernel_rfl
theorem g3_size : ∀ i r, i < g3.B → f_size_of [g3.gs i] r = some (⟨.int g3.n, .dat⟩, r) := by
  intro i r hi
  rcases lt5 hi with rfl | rfl | rfl | rfl | rfl <;> exact pu_size_of.at (by kernel_rfl) r
theorem g3_lab1 : ∀ i, i < g3.B → (LL3.getD i []).length = g3.n := by
  intro i hi
  rcases lt5 hi with rfl | rfl | rfl | rfl | rfl <;> kernel_rfl
theorem g3_lab2 : ∀ i r, i < g3.B → f__law_labels [g3.gs i] r = some (⟨.lst (LL3.getD i []), .new⟩, r) := by
  intro i r hi
  rcases lt5 hi with rfl | rfl | rfl | rfl | rfl <;> kernel_rfl
theorem g3_needg : ∀ i r, i < g3.B → f_need_grouping [g3.gs i] r = some (⟨.non, .dat⟩, r) := by
  intro i r hi
  rcases lt5 hi with rfl | rfl | rfl | rfl | rfl <;> exact pu_need_grouping.at (by kernel_rfl) r
theorem g3_isstep : ∀ j r, j < g3.S → f_is_step [.int g3.n, g3.st j] r = some (⟨.bl true, .dat⟩, r) := by
  intro i r hi
  rcases lt6 hi with rfl | rfl | rfl | rfl | rfl | rfl <;> exact pu_is_step.at (by kernel_rfl) r
theorem ok3 : GpOk g3 where
  nxlt := g3_nxlt
  step := g3_step
  lstep := g3_lstep
  gkey := g3_gkey
  skey := g3_skey
  gkeq := g3_gkeq
  skeq := g3_skeq
  geq := g3_geq
  seq := g3_seq
  gle := g3_gle
  galike := g3_galike
  gshp := g3_gshp
  sshp := g3_sshp
  badst := g3_badst
  size := g3_size
  needg := g3_needg
  isstep := g3_isstep
  labels := fun i r hi => ⟨_, g3_lab1 i hi, g3_lab2 i r hi⟩
  b5 := by decide
  s6 := by decide
  s1 := by decide
  n3 := .inr (.inr rfl)
  bsort := by kernel_rfl
  steps := fun r => by kernel_rfl
  lsteps := fun r => by kernel_rfl
  groups := fun r => by kernel_rfl
  lgroups := fun r => by kernel_rfl
  badstep := fun r => pu_is_step.at (by kernel_rfl) r
end GD
/-! Ic -/
set_option maxHeartbeats 4000000
/-! Ic: likings and prices of sizes 1 to 3. -/
namespace GD
open PySem L2
theorem e_allG {S Sw : Sl} {r r1 : Rw} {t : Tg} {vs : List Nat} {mi : MI} {me : ME} {L : List D} {b : Bool} {bs : List Bool} (hi : mi ⟨S, r⟩ = some (L, b, r1)) (hw : wipeS S vs = Sw) (hg : gVals t me Sw r1 L = some (bs.map D.bl)) : mAllG t vs mi me ⟨S, r⟩ = some (⟨.bl (bs.all id), .dat⟩, r1) := by
  subst hw
  unfold mAllG mGen
  simp only
  rw [hi, Option.bind_some]
  simp only
  rw [hg, Option.bind_some, mapM_bls]; rfl
theorem e_star {S : Sl} {r r1 r2 : Rw} {A : ME} {B : MA} {l : List D} {k : Kd} {es : List EV} (hA : A ⟨S, r⟩ = some (⟨.tup l, k⟩, r1)) (hB : B ⟨S, r1⟩ = some (es, r2)) : mStar A B ⟨S, r⟩ = some (l.map datE ++ es, r2) := by
  unfold mStar
  simp only
  rw [hA, Option.bind_some]
  simp only [itemsD, Option.bind_some]
  rw [hB]; rfl
/-- all of some numbers lie in a range -/
theorem vals_in {i : Nat} {S : Sl} {A B : ME} {a b : Int} {r : Rw} (h : i < S.length) (hA : ∀ d, A ⟨S.set i d, r⟩ = some (⟨.int a, .dat⟩, r)) (hB : ∀ d, B ⟨S.set i d, r⟩ = some (⟨.int b, .dat⟩, r)) (l : List Int) (hl : ∀ x ∈ l, a ≤ x ∧ x ≤ b) :
    gVals (.one i) (mFn 3 f_is_in (mCons (mVar i) (mCons A (mCons B mNil)))) S r (l.map D.int) = some ((l.map fun _ => true).map D.bl) := by
  have := gVals_map (t := .one i) (me := mFn 3 f_is_in (mCons (mVar i) (mCons A (mCons B mNil)))) (slw := S) (r := r) D.int (fun _ => D.bl true) (L := l) fun x hx => by
    have h1 := isin_ok x a b r
    obtain ⟨h2, h3⟩ := hl x hx
    rw [decide_eq_true h2, decide_eq_true h3] at h1
    exact ⟨_, .dat, rfl, e_fn (n := 3) (e_cons (e_var (i := i) (d := .int x) (by rw [List.getElem?_set_self h])) (e_cons (hA _) (e_cons (hB _) e_nil))) rfl rfl h1 rfl⟩
  rw [this, List.map_map]; rfl
theorem all_true (l : List Int) : (l.map fun _ => true).all id = true := by
  induction l with
  | nil => rfl
  | cons a l ih => simpa using ih
theorem likes_ok {ls : List Int} (h : ∀ x ∈ ls, -100 ≤ x ∧ x ≤ 100) {m k : Int} (hm : ∀ S r, (mBin fDiv (mBin fMul (mVar 0) (mBin fSub (mVar 0) (mCst (.int 1)))) (mCst (.int 2))) ⟨some (.dat (.int m)) :: S, r⟩ = some (⟨.int k, .dat⟩, r)) (r : Rw) : f_are_likings [.int m, .tup (ls.map D.int)] r = some (⟨.bl (decide ((ls.length : Int) = k)), .dat⟩, r) := by
  refine mBody_rt (sl := [some (.dat (.int m)), some (.dat (.tup (ls.map D.int))), none]) rfl ?_
  have v1 : mVar 1 ⟨[some (.dat (.int m)), some (.dat (.tup (ls.map D.int))), none], r⟩ = some (⟨.tup (ls.map D.int), .dat⟩, r) := rfl
  have hl : f1 gLen [.tup (ls.map D.int)] = some ⟨.int ls.length, .dat⟩ := by
    have e : f1 gLen [.tup (ls.map D.int)] = some (evI (ls.map D.int).length) := rfl
    rw [e, List.length_map]; rfl
  have t := e_or0 (e_not (b := true) (e_tb (e_is (f := isTupD) v1 rfl))) (e_tb (e_bin (f := fNe) (e_call (f := f1 gLen) (e_cons v1 e_nil) hl) (hm _ r) (fNe_int ls.length k)))
  by_cases hk : (ls.length : Int) = k
  · rw [decide_eq_true hk] at t ⊢
    refine (mSeq_if0 t).trans ?_
    have hg := vals_in (i := 2) (S := [some (.dat (.int m)), some (.dat (.tup (ls.map D.int))), none]) (A := mBin fSub (mCst (.int 0)) (mCst (.int 100))) (B := mCst (.int 100)) (a := -100) (b := 100) (r := r) (by simp) (fun d => rfl) (fun d => rfl) ls h
    have := e_allG (t := .one 2) (vs := [2]) (e_it (A := mVar 1) v1 rfl) (show wipeS [some (.dat (.int m)), some (.dat (.tup (ls.map D.int))), none] [2] = [some (.dat (.int m)), some (.dat (.tup (ls.map D.int))), none] from rfl) hg
    rw [all_true] at this
    exact e_ret this rfl
  · rw [decide_eq_false hk] at t ⊢
    exact mSeq_if1 t ret_bl
theorem prices_ok {p0 p1 : List Int} (h0 : ∀ x ∈ p0, 0 ≤ x ∧ x ≤ 1000) (h1 : ∀ x ∈ p1, 0 ≤ x ∧ x ≤ 1000) (hlen : p0.length + p1.length ≤ 100) {m k : Int} (hm : ∀ S r, (mBin fDiv (mBin fMul (mVar 0) (mBin fSub (mVar 0) (mCst (.int 1)))) (mCst (.int 2))) ⟨some (.dat (.int m)) :: S, r⟩ = some (⟨.int k, .dat⟩, r)) (e0 : (p0.length : Int) = m) (e1 : (p1.length : Int) = k) (r : Rw) : f_are_prices [.int m, .tup [.tup (p0.map D.int), .tup (p1.map D.int)]] r = some (⟨.bl true, .dat⟩, r) := by
  refine mBody_rt (sl := [some (.dat (.int m)), some (.dat (.tup [.tup (p0.map D.int), .tup (p1.map D.int)])), none, none]) rfl ?_
  generalize hS : ([some (.dat (.int m)), some (.dat (.tup [.tup (p0.map D.int), .tup (p1.map D.int)])), none, none] : Sl) = S
  have v1 : mVar 1 ⟨S, r⟩ = some (⟨.tup [.tup (p0.map D.int), .tup (p1.map D.int)], .dat⟩, r) := by rw [← hS]; rfl
  have v0 : mVar 0 ⟨S, r⟩ = some (⟨.int m, .dat⟩, r) := by rw [← hS]; rfl
  have hm1 := hm [some (.dat (.tup [.tup (p0.map D.int), .tup (p1.map D.int)])), none, none] r
  rw [hS] at hm1
  have x0 : fIx (.tup [.tup (p0.map D.int), .tup (p1.map D.int)]) (.int 0) = some ⟨.tup (p0.map D.int), .dat⟩ := rfl
  have x1 : fIx (.tup [.tup (p0.map D.int), .tup (p1.map D.int)]) (.int 1) = some ⟨.tup (p1.map D.int), .dat⟩ := rfl
  have l0 : f1 gLen [.tup (p0.map D.int)] = some ⟨.int m, .dat⟩ := by
    have e : f1 gLen [.tup (p0.map D.int)] = some (evI (p0.map D.int).length) := rfl
    rw [e, List.length_map, e0]; rfl
  have l1 : f1 gLen [.tup (p1.map D.int)] = some ⟨.int k, .dat⟩ := by
    have e : f1 gLen [.tup (p1.map D.int)] = some (evI (p1.map D.int).length) := rfl
    rw [e, List.length_map, e1]; rfl
  have n2 : fNe (.int 2) (.int 2) = some ⟨.bl false, .dat⟩ := rfl
  have nm : fNe (.int m) (.int m) = some ⟨.bl false, .dat⟩ := by rw [fNe_int]; simp
  have nk : fNe (.int k) (.int k) = some ⟨.bl false, .dat⟩ := by rw [fNe_int]; simp
  have hw3 : wipeS S [3] = S := by rw [← hS]; rfl
  have hw2 : wipeS S [2] = S := by rw [← hS]; rfl
  have hg3 : gVals (.one 3) (mIs isTupD (mVar 3)) S r [.tup (p0.map D.int), .tup (p1.map D.int)] = some ([true, true].map D.bl) := by
    rw [← hS]
    simp [gVals, bindT, mIs, mVar, isTupD, evB]
  have ha3 := e_allG (t := .one 3) (vs := [3]) (e_it (A := mVar 1) v1 rfl) hw3 hg3
  have t1 := e_or0 (e_not (b := true) (e_tb (e_is (f := isTupD) v1 rfl))) (e_or0 (e_tb (e_bin (f := fNe) (e_call (f := f1 gLen) (e_cons v1 e_nil) rfl) e_cst n2)) (e_not (b := true) (e_tb ha3)))
  have t2 := e_or0 (e_tb (e_bin (f := fNe) (e_call (f := f1 gLen) (e_cons (e_bin (f := fIx) v1 e_cst x0) e_nil) l0) v0 nm)) (e_tb (e_bin (f := fNe) (e_call (f := f1 gLen) (e_cons (e_bin (f := fIx) v1 e_cst x1) e_nil) l1) hm1 nk))
  refine (mSeq_if0 t1).trans ((mSeq_if0 t2).trans ?_)
  have hst := e_star (e_bin (f := fIx) v1 (e_cst (d := .int 0)) x0) (e_star (e_bin (f := fIx) v1 (e_cst (d := .int 1)) x1) (e_nil (S := S) (r := r)))
  have hnb : noBor ((p0.map D.int).map datE ++ ((p1.map D.int).map datE ++ [])) = true := by
    unfold noBor
    rw [List.all_eq_true]
    intro e he
    rw [List.append_nil, List.mem_append] at he
    rcases he with he | he
    · obtain ⟨d, _, rfl⟩ := List.mem_map.mp he
      rfl
    · obtain ⟨d, _, rfl⟩ := List.mem_map.mp he
      rfl
  have htup := e_tup hst hnb (by simp [lim]; omega)
  have hmap : ((p0.map D.int).map datE ++ ((p1.map D.int).map datE ++ [])).map (fun (e : EV) => e.d) = (p0 ++ p1).map D.int := by
    simp only [List.map_append, List.map_map, List.append_nil, List.map_nil]
    rfl
  rw [hmap] at htup
  have hset : ∀ d, (S.set 2 d).length = 4 := fun d => by rw [← hS]; rfl
  have hg := vals_in (i := 2) (S := S) (A := mCst (.int 0)) (B := mCst (.int 1000)) (a := 0) (b := 1000) (r := r) (by rw [← hS]; simp) (fun d => rfl) (fun d => rfl) (p0 ++ p1) (fun x hx => (List.mem_append.mp hx).elim (h0 x) (h1 x))
  have := e_allG (t := .one 2) (vs := [2]) (e_it htup rfl) hw2 hg
  rw [all_true] at this
  exact e_ret this rfl
theorem need_l_sim {F : MF} {a b : D} {r : Rw} (h : F [a, b] r = some (⟨.bl true, .dat⟩, r)) : (mIfS (mTNot (mTb (mFn 2 F (mCons (mVar 0) (mCons (mVar 1) mNil))))) mNever mNext) ⟨[some (.dat a), some (.dat b)], r⟩ = some (.nx [some (.dat a), some (.dat b)], r) := by
  have t := e_not (e_tb (e_fn (S := [some (.dat a), some (.dat b)]) (r := r) (n := 2) (F := F) (e_cons (e_var (i := 0) rfl) (e_cons (e_var (i := 1) rfl) e_nil)) rfl rfl h rfl))
  unfold mIfS
  rw [t]; rfl
theorem needl_of {a b : D} {r : Rw} (h : f_are_likings [a, b] r = some (⟨.bl true, .dat⟩, r)) : f_need_likings [a, b] r = some (⟨.non, .dat⟩, r) := mBody_nx (sl := [some (.dat a), some (.dat b)]) rfl (need_l_sim h)
theorem needp_of {a b : D} {r : Rw} (h : f_are_prices [a, b] r = some (⟨.bl true, .dat⟩, r)) : f_need_prices [a, b] r = some (⟨.non, .dat⟩, r) := mBody_nx (sl := [some (.dat a), some (.dat b)]) rfl (need_l_sim h)
theorem many_of (m k : Int) (h : fDiv (.int (m * (m - 1))) (.int 2) = some ⟨.int k, .dat⟩) (h2 : decide (-(2 ^ 64) < m - 1 ∧ m - 1 < 2 ^ 64) = true) : ∀ S r, (mBin fDiv (mBin fMul (mVar 0) (mBin fSub (mVar 0) (mCst (.int 1)))) (mCst (.int 2))) ⟨some (.dat (.int m)) :: S, r⟩ = some (⟨.int k, .dat⟩, r) := by
  intro S r
  have hm : fMul (.int m) (.int (m - 1)) = some ⟨.int (m * (m - 1)), .dat⟩ := by
    have e : fMul (.int m) (.int (m - 1)) = (if decide (-(2 ^ 64) < m - 1 ∧ m - 1 < 2 ^ 64) = true then some (evI (m * (m - 1))) else none).or (fRepT (.int m) (.int (m - 1))) := rfl
    rw [e, if_pos h2]; rfl
  exact e_bin (f := fDiv) (e_bin (f := fMul) (e_var (i := 0) rfl) (e_bin (f := fSub) (e_var (i := 0) rfl) e_cst (fSub_int m 1)) hm) e_cst h
theorem many_all : ∀ m : Nat, 1 ≤ m → m ≤ 6 → ∃ k : Int, (∀ S r, (mBin fDiv (mBin fMul (mVar 0) (mBin fSub (mVar 0) (mCst (.int 1)))) (mCst (.int 2))) ⟨some (.dat (.int m)) :: S, r⟩ = some (⟨.int k, .dat⟩, r)) ∧ (k = 0 ↔ m = 1) ∧ (k = 1 ↔ m = 2) ∧ (k = 3 ↔ m = 3) := by
  intro m h1 h6
  have : m = 1 ∨ m = 2 ∨ m = 3 ∨ m = 4 ∨ m = 5 ∨ m = 6 := by omega
  rcases this with rfl | rfl | rfl | rfl | rfl | rfl
  · exact ⟨0, many_of _ _ (by kernel_rfl) (by decide +kernel), by omega, by omega, by omega⟩
  · exact ⟨1, many_of _ _ (by kernel_rfl) (by decide +kernel), by omega, by omega, by omega⟩
  · exact ⟨3, many_of _ _ (by kernel_rfl) (by decide +kernel), by omega, by omega, by omega⟩
  · exact ⟨6, many_of _ _ (by kernel_rfl) (by decide +kernel), by omega, by omega, by omega⟩
  · exact ⟨10, many_of _ _ (by kernel_rfl) (by decide +kernel), by omega, by omega, by omega⟩
  · exact ⟨15, many_of _ _ (by kernel_rfl) (by decide +kernel), by omega, by omega, by omega⟩
/-! ### size 1 -/
def u1 (a : Int) : Nu := ⟨fun _ => 0, fun _ => a, .tup (([] : List Int).map D.int), .tup [.tup ([a].map D.int), .tup (([] : List Int).map D.int)], [0]⟩
theorem nu1 {a : Int} (ha : 0 ≤ a ∧ a ≤ 5) : NuOk g1 (u1 a) where
  pr0 := fun j _ => ha
  worth := fun i r hi => by cases lt1 hi; exact pu_worth_of.at (by kernel_rfl) r
  lworth := fun i r hi => by cases lt1 hi; kernel_rfl
  ptab := fun r => by kernel_rfl
  prm := fun j => by
    show j ∈ [0] ↔ j < 1
    simp
  pl := Nat.le_of_ble_eq_true rfl
  needl := fun r => by
    obtain ⟨k, h1, h2, _⟩ := many_all 1 (by omega) (by omega)
    have := likes_ok (ls := []) (fun x hx => (nomatch hx)) h1 r
    rw [h2.mpr rfl] at this
    exact needl_of this
  needp := fun r => by
    obtain ⟨k, h1, h2, _⟩ := many_all 1 (by omega) (by omega)
    exact needp_of (prices_ok (p0 := [a]) (p1 := []) (fun x hx => by simp at hx; omega) (fun x hx => (nomatch hx)) (by simp) h1 rfl (h2.mpr rfl).symm r)
  liks := fun m r h1 h6 => by
    obtain ⟨k, hk, h2, _⟩ := many_all m h1 h6
    refine (likes_ok (ls := []) (fun x hx => (nomatch hx)) hk r).trans ?_
    have : decide (((([] : List Int).length : Nat) : Int) = k) = decide (m = g1.n) := by
      show decide ((0 : Int) = k) = decide (m = 1)
      rw [decide_eq_decide]
      exact ⟨fun z => h2.mp z.symm, fun z => (h2.mpr z).symm⟩
    rw [this]
/-! ### size 2 -/
def u2 (l a b c : Int) : Nu := ⟨fun i => [0, 0 + l].getD i 0, fun j => [a, c, b].getD j 0, .tup ([l].map D.int), .tup [.tup ([a, b].map D.int), .tup ([c].map D.int)], [0, 2, 1]⟩
theorem nu2 {l a b c : Int} (hl : -100 ≤ l ∧ l ≤ 100) (ha : 0 ≤ a ∧ a ≤ 5) (hb : 0 ≤ b ∧ b ≤ 5) (hc : 0 ≤ c ∧ c ≤ 5) : NuOk g2 (u2 l a b c) where
  pr0 := fun j hj => by 
    rcases lt3 hj with rfl | rfl | rfl
    · exact ha
    · exact hc
    · exact hb
  worth := fun i r hi => by rcases lt2 hi with rfl | rfl <;> exact pu_worth_of.at (by kernel_rfl) r
  lworth := fun i r hi => by
    rcases lt2 hi with rfl | rfl
    · have h : f__law_worth [g2.gs 0, (u2 l a b c).lk] r = some (⟨.int (0 + l * 0), .dat⟩, r) := by kernel_rfl
      have e : 0 + l * 0 = (u2 l a b c).W 0 := by show 0 + l * 0 = 0; omega
      rw [h, e]
    · have h : f__law_worth [g2.gs 1, (u2 l a b c).lk] r = some (⟨.int (0 + l * 1), .dat⟩, r) := by kernel_rfl
      have e : 0 + l * 1 = (u2 l a b c).W 1 := by show 0 + l * 1 = 0 + l; omega
      rw [h, e]
  ptab := fun r => by kernel_rfl
  prm := fun j => by
    show j ∈ [0, 2, 1] ↔ j < 3
    simp; omega
  pl := Nat.le_of_ble_eq_true rfl
  needl := fun r => by
    obtain ⟨k, h1, _, h2, _⟩ := many_all 2 (by omega) (by omega)
    have := likes_ok (ls := [l]) (fun x hx => by simp at hx; omega) h1 r
    rw [h2.mpr rfl] at this
    exact needl_of this
  needp := fun r => by
    obtain ⟨k, h1, _, h2, _⟩ := many_all 2 (by omega) (by omega)
    exact needp_of (prices_ok (p0 := [a, b]) (p1 := [c]) (fun x hx => by simp at hx; omega) (fun x hx => by simp at hx; omega) (by simp) h1 rfl (h2.mpr rfl).symm r)
  liks := fun m r h1 h6 => by
    obtain ⟨k, hk, _, h2, _⟩ := many_all m h1 h6
    refine (likes_ok (ls := [l]) (fun x hx => by simp at hx; omega) hk r).trans ?_
    have : decide ((([l].length : Nat) : Int) = k) = decide (m = g2.n) := by
      show decide ((1 : Int) = k) = decide (m = 2)
      rw [decide_eq_decide]
      exact ⟨fun z => h2.mp z.symm, fun z => (h2.mpr z).symm⟩
    rw [this]
/-! ### size 3 -/
def u3 (x y z a b c d e f : Int) : Nu := ⟨fun i => [0, 0 + z, 0 + x, 0 + x + y + z, 0 + y].getD i 0, fun j => [a, d, e, b, f, c].getD j 0, .tup ([x, y, z].map D.int), .tup [.tup ([a, b, c].map D.int), .tup ([d, e, f].map D.int)], [0, 3, 5, 1, 2, 4]⟩
theorem nu3 {x y z a b c d e f : Int} (hx : -100 ≤ x ∧ x ≤ 100) (hy : -100 ≤ y ∧ y ≤ 100) (hz : -100 ≤ z ∧ z ≤ 100) (ha : 0 ≤ a ∧ a ≤ 5) (hb : 0 ≤ b ∧ b ≤ 5) (hc : 0 ≤ c ∧ c ≤ 5) (hd : 0 ≤ d ∧ d ≤ 5) (he : 0 ≤ e ∧ e ≤ 5) (hf : 0 ≤ f ∧ f ≤ 5) : NuOk g3 (u3 x y z a b c d e f) where
  pr0 := fun j hj => by 
    rcases lt6 hj with rfl | rfl | rfl | rfl | rfl | rfl
    · exact ha
    · exact hd
    · exact he
    · exact hb
    · exact hf
    · exact hc
  worth := fun i r hi => by rcases lt5 hi with rfl | rfl | rfl | rfl | rfl <;> exact pu_worth_of.at (by kernel_rfl) r
  lworth := fun i r hi => by
    rcases lt5 hi with rfl | rfl | rfl | rfl | rfl
    · have h : f__law_worth [g3.gs 0, (u3 x y z a b c d e f).lk] r = some (⟨.int (0 + x * 0 + y * 0 + z * 0), .dat⟩, r) := by kernel_rfl
      have q : 0 + x * 0 + y * 0 + z * 0 = (u3 x y z a b c d e f).W 0 := by show 0 + x * 0 + y * 0 + z * 0 = 0; omega
      rw [h, q]
    · have h : f__law_worth [g3.gs 1, (u3 x y z a b c d e f).lk] r = some (⟨.int (0 + x * 0 + y * 0 + z * 1), .dat⟩, r) := by kernel_rfl
      have q : 0 + x * 0 + y * 0 + z * 1 = (u3 x y z a b c d e f).W 1 := by show 0 + x * 0 + y * 0 + z * 1 = 0 + z; omega
      rw [h, q]
    · have h : f__law_worth [g3.gs 2, (u3 x y z a b c d e f).lk] r = some (⟨.int (0 + x * 1 + y * 0 + z * 0), .dat⟩, r) := by kernel_rfl
      have q : 0 + x * 1 + y * 0 + z * 0 = (u3 x y z a b c d e f).W 2 := by show 0 + x * 1 + y * 0 + z * 0 = 0 + x; omega
      rw [h, q]
    · have h : f__law_worth [g3.gs 3, (u3 x y z a b c d e f).lk] r = some (⟨.int (0 + x * 1 + y * 1 + z * 1), .dat⟩, r) := by kernel_rfl
      have q : 0 + x * 1 + y * 1 + z * 1 = (u3 x y z a b c d e f).W 3 := by show 0 + x * 1 + y * 1 + z * 1 = 0 + x + y + z; omega
      rw [h, q]
    · have h : f__law_worth [g3.gs 4, (u3 x y z a b c d e f).lk] r = some (⟨.int (0 + x * 0 + y * 1 + z * 0), .dat⟩, r) := by kernel_rfl
      have q : 0 + x * 0 + y * 1 + z * 0 = (u3 x y z a b c d e f).W 4 := by show 0 + x * 0 + y * 1 + z * 0 = 0 + y; omega
      rw [h, q]
  ptab := fun r => by kernel_rfl
  prm := fun j => by
    show j ∈ [0, 3, 5, 1, 2, 4] ↔ j < 6
    simp; omega
  pl := Nat.le_of_ble_eq_true rfl
  needl := fun r => by
    obtain ⟨k, h1, _, _, h2⟩ := many_all 3 (by omega) (by omega)
    have := likes_ok (ls := [x, y, z]) (fun x hx => by simp at hx; omega) h1 r
    rw [h2.mpr rfl] at this
    exact needl_of this
  needp := fun r => by
    obtain ⟨k, h1, _, _, h2⟩ := many_all 3 (by omega) (by omega)
    exact needp_of (prices_ok (p0 := [a, b, c]) (p1 := [d, e, f]) (fun x hx => by simp at hx; omega) (fun x hx => by simp at hx; omega) (by simp) h1 rfl (h2.mpr rfl).symm r)
  liks := fun m r h1 h6 => by
    obtain ⟨k, hk, _, _, h2⟩ := many_all m h1 h6
    refine (likes_ok (ls := [x, y, z]) (fun x hx => by simp at hx; omega) hk r).trans ?_
    have : decide ((([x, y, z].length : Nat) : Int) = k) = decide (m = g3.n) := by
      show decide ((3 : Int) = k) = decide (m = 3)
      rw [decide_eq_decide]
      exact ⟨fun z => h2.mp z.symm, fun z => (h2.mpr z).symm⟩
    rw [this]
end GD
/-! Kw -/
set_option maxHeartbeats 4000000
/-! Kw: the law's own body, the nets' values. -/
namespace GD
open PySem L2
theorem fLe_int (a b : Int) : fLe (.int a) (.int b) = some ⟨.bl (decide (a ≤ b)), .dat⟩ := rfl
section
variable {g : Gp} {u : Nu} {s : Nat}
theorem shp_stD (ok : GpOk g) : shp (stD g) = true := by
  refine (shp_list (n := 8) (by omega) fun d hd => ?_).1.1
  obtain ⟨j, hj, rfl⟩ := List.mem_map.mp hd
  exact ok.sshp j (List.mem_range.mp hj)
theorem fIn_lst (neg : Bool) (x : D) (l : List D) (h1 : shp x = true) (h2 : shp (.lst l) = true) : fIn neg x (.lst l) = some ⟨.bl (neg != l.any fun z => eqD z x), .dat⟩ := by
  have e : fIn neg x (.lst l) = (fInL neg x (.lst l)).or (fInD neg x (.lst l)) := rfl
  have e2 : fInL neg x (.lst l) = if (shp x && shp (.lst l)) = true then some (evB (neg != l.any fun z => eqD z x)) else none := rfl
  rw [e, e2, h1, h2]; rfl
theorem fIn_st (ok : GpOk g) {j : Nat} (hj : j < g.S) : fIn true (g.st j) (stD g) = some ⟨.bl false, .dat⟩ := by
  rw [fIn_lst true _ _ (ok.sshp j hj).1 (shp_stD ok)]
  have : ((List.range g.S).map g.st).any (fun z => eqD z (g.st j)) = true := by
    rw [List.any_eq_true]
    refine ⟨g.st j, List.mem_map.mpr ⟨j, List.mem_range.mpr hj, rfl⟩, ?_⟩
    rw [ok.seq j j hj hj]
    exact decide_eq_true rfl
  rw [this]; rfl
theorem fIn_bad (ok : GpOk g) : fIn true (.tup [.int g.n]) (stD g) = some ⟨.bl true, .dat⟩ := by
  rw [fIn_lst true _ _ rfl (shp_stD ok)]
  have : ((List.range g.S).map g.st).any (fun z => eqD z (.tup [.int g.n])) = false := by
    rw [List.any_eq_false]
    intro d hd
    obtain ⟨j, hj, rfl⟩ := List.mem_map.mp hd
    rw [ok.badst j (List.mem_range.mp hj)]
    decide
  rw [this]; rfl
def pM (g : Gp) (u : Nu) (s K : Nat) (a6 a9 : Option SV) : Pre := ⟨none, some (.dat .row), some (.dat (.int g.n)), some (.dat (.int K)), some (.dat u.lk), some (.dat u.ps), a6, some (.dat (g.gs s)), a9⟩
def slX (g : Gp) (u : Nu) (s K : Nat) (b : Int) (w0 : List Nat) (f : List (Nat × Int)) (a6 a7 a9 a12 a13 a14 a15 a16 a20 a21 a22 : Option SV) : Sl :=
  slW (pM g u s K a6 a9) a7 (.dT (tabL g u)) (encI g f) a12 a13 [a14, a15, a16, some (.dat (.int b)), some (.dat (bestD g b w0)), some (.dat (wdD g w0)), a20, a21, a22]
abbrev dueA : ME := (mAnd (mIs isTupD (mVar 20)) (mAnd (mBin fEq (mCall (f1 gLen) (mCons (mVar 20) mNil)) (mCst (.int 2))) (mAnd (mBin fEq (mBin fIx (mVar 20) (mCst (.int 0))) (mVar 17)) (mIs isTupD (mBin fIx (mVar 20) (mCst (.int 1)))))))
abbrev dueB : ME := (mAnd (mVar 21) (mAnd (mBin fLe (mCall (f1 gLen) (mCons (mBin fIx (mVar 20) (mCst (.int 1))) mNil)) (mCst (.int 300))) (mBin fEq (mLc (.one 15) [15] (mIt (mBin fIx (mVar 20) (mCst (.int 1)))) (mTb (mBin (fIn true) (mVar 15) (mVar 7))) (mVar 15)) (mLst mNil))))
abbrev dueC (FW FD : MF) : ME := (mAnd (mVar 21) (mBin fEq (mBin fSub (mFn 2 FW (mCons (mFn 2 FD (mCons (mVar 8) (mCons (mBin fIx (mVar 20) (mCst (.int 1))) mNil))) (mCons (mVar 4) mNil))) (mCall (f1 gSum) (mCons (mLc (.one 15) [15] (mIt (mBin fIx (mVar 20) (mCst (.int 1)))) mYes (mBin fIx (mVar 10) (mVar 15))) mNil))) (mVar 17)))
/-- the first two tests at a value -/
def netA (b : Int) : D → Bool
  | .tup [.int v0, x] => decide (v0 = b) && (isTupD x == some true)
  | _ => false
theorem dueA_ok {b : Int} {S : Sl} {r : Rw} {v : D} {c : Bool} (hv : NetV g u s b v c) (h20 : S[20]? = some (some (.dat v))) (h17 : S[17]? = some (some (.dat (.int b)))) : dueA ⟨S, r⟩ = some (⟨.bl (netA b v), .dat⟩, r) := by
  have v20 := e_var (r := r) h20
  have v17 := e_var (r := r) h17
  have pre : ∀ (v0 : Int) (x : D) (c : Bool), v = .tup [.int v0, x] → isTupD x = some c → dueA ⟨S, r⟩ = some (⟨.bl (decide (v0 = b) && c), .dat⟩, r) := by
    intro v0 x c e h
    subst e
    refine e_and1 (e_is v20 rfl) (e_and1 (e_bin (f := fEq) (e_call (f := f1 gLen) (e_cons v20 e_nil) rfl) e_cst (fEq_int 2 2)) ?_)
    have hx : fIx (.tup [.int v0, x]) (.int 0) = some ⟨.int v0, .dat⟩ := rfl
    have hx1 : fIx (.tup [.int v0, x]) (.int 1) = some ⟨x, .dat⟩ := rfl
    have t := e_bin (f := fEq) (e_bin (f := fIx) v20 e_cst hx) v17 (fEq_int v0 b)
    cases hb : decide (v0 = b) with
    | true =>
      rw [hb] at t
      exact e_and1 t (e_is (e_bin (f := fIx) v20 e_cst hx1) h)
    | false =>
      rw [hb] at t
      exact e_and0 t
  cases hv with
  | no v h =>
    have : netA b v = false := by
      unfold netA
      split
      · cases h
      · rfl
    rw [this]
    exact e_and0 (e_is v20 h)
  | noword v0 x h =>
    have := pre v0 x false rfl h
    have e : netA b (.tup [.int v0, x]) = (decide (v0 = b) && false) := by show (decide (v0 = b) && (isTupD x == some true)) = _; rw [h]; rfl
    rw [e]
    exact this
  | far v0 => exact pre v0 _ true rfl rfl
  | word v0 w hw => exact pre v0 _ true rfl rfl
theorem dueB_ok (ok : GpOk g) {b : Int} {S Sw : Sl} {r : Rw} {k : Kd} {v : D} {c : Bool} (hv : NetV g u s b v c) (h20 : S[20]? = some (some (.dat v))) (h21 : S[21]? = some (some (.dat (.bl (netA b v))))) (hw : wipeS S [15] = Sw) (h7 : ∀ d, mVar 7 ⟨Sw.set 15 d, r⟩ = some (⟨stD g, k⟩, r)) (hl : 15 < Sw.length) :
    ∃ cB, dueB ⟨S, r⟩ = some (⟨.bl cB, .dat⟩, r) ∧ (cB = true → ∃ w, v = .tup [.int b, wdD g w] ∧ valid g w ∧ w.length ≤ 300 ∧ c = decide (val g u s w = b)) ∧ (cB = false → c = false) := by
  have v20 := e_var (r := r) h20
  have v21 := e_var (r := r) h21
  cases hv with
  | no v h =>
    have hn : netA b v = false := by
      unfold netA
      split
      · cases h
      · rfl
    rw [hn] at v21
    exact ⟨false, e_and0 v21, (nomatch ·), fun _ => rfl⟩
  | noword v0 x h =>
    have e : netA b (.tup [.int v0, x]) = false := by show (decide (v0 = b) && (isTupD x == some true)) = _; rw [h]; simp
    rw [e] at v21
    exact ⟨false, e_and0 v21, (nomatch ·), fun _ => rfl⟩
  | far v0 =>
    refine ⟨false, ?_, (nomatch ·), fun _ => rfl⟩
    have e : netA b (.tup [.int v0, .tup [.tup [.int g.n]]]) = decide (v0 = b) := by show (decide (v0 = b) && (isTupD (.tup [.tup [.int g.n]]) == some true)) = _; simp [isTupD]
    rw [e] at v21
    by_cases hb : v0 = b
    · rw [decide_eq_true hb] at v21
      have x1 : fIx (.tup [.int v0, .tup [.tup [.int g.n]]]) (.int 1) = some ⟨.tup [.tup [.int g.n]], .dat⟩ := rfl
      have m1 := e_bin (f := fIx) v20 (e_cst (d := .int 1)) x1
      have hgo := mLcGo_map (t := .one 15) (mt := mTb (mBin (fIn true) (mVar 15) (mVar 7))) (me := mVar 15) (slw := Sw) (r := r) (fun d : D => d) (fun _ => true) (fun d => d) (L := [.tup [.int g.n]]) (acc := []) (by simp [lim]) (fun d hd => by
        simp at hd
        subst hd
        exact ⟨_, rfl, e_tb (e_bin (f := fIn true) (e_var (by rw [List.getElem?_set_self hl])) (h7 _) (fIn_bad ok)), fun _ => ⟨.dat, by decide, e_var (by rw [List.getElem?_set_self hl])⟩⟩)
      have hne : fEq (.lst [.tup [.int g.n]]) (.lst []) = some ⟨.bl false, .dat⟩ := fEq_nil rfl
      exact e_and1 v21 (e_and1 (e_bin (f := fLe) (e_call (f := f1 gLen) (e_cons m1 e_nil) rfl) e_cst (fLe_int 1 300)) (e_bin (f := fEq) (e_lc (vs := [15]) (e_it m1 rfl) hw hgo) (e_lst e_nil rfl (by simp [lim])) hne))
    · rw [decide_eq_false hb] at v21
      exact e_and0 v21
  | word v0 w hv =>
    have e : netA b (.tup [.int v0, wdD g w]) = decide (v0 = b) := by show (decide (v0 = b) && (isTupD (wdD g w) == some true)) = _; simp [isTupD]
    rw [e] at v21
    by_cases hb : v0 = b
    · rw [decide_eq_true hb] at v21
      have x1 : fIx (.tup [.int v0, wdD g w]) (.int 1) = some ⟨wdD g w, .dat⟩ := rfl
      have m1 := e_bin (f := fIx) v20 (e_cst (d := .int 1)) x1
      have hlen : f1 gLen [wdD g w] = some ⟨.int w.length, .dat⟩ := by
        have e : f1 gLen [wdD g w] = some (evI (w.map g.st).length) := rfl
        rw [e, List.length_map]; rfl
      have t := e_bin (f := fLe) (e_call (f := f1 gLen) (e_cons m1 e_nil) hlen) e_cst (fLe_int w.length 300)
      by_cases h3 : w.length ≤ 300
      · have h3' : (w.length : Int) ≤ 300 := by omega
        rw [decide_eq_true h3'] at t
        have hgo := mLcGo_map (t := .one 15) (mt := mTb (mBin (fIn true) (mVar 15) (mVar 7))) (me := mVar 15) (slw := Sw) (r := r) g.st (fun _ => false) g.st (L := w) (acc := []) (by have : lim = 1000000 := rfl; simp; omega) (fun j hj => 
          ⟨_, rfl, e_tb (e_bin (f := fIn true) (e_var (by rw [List.getElem?_set_self hl])) (h7 _) (fIn_st ok (hv j hj))), fun z => by cases z⟩)
        have hf : w.filter (fun _ => false) = [] := by simp
        rw [hf] at hgo
        refine ⟨true, e_and1 v21 (e_and1 t (e_bin (f := fEq) (e_lc (vs := [15]) (e_it m1 rfl) hw hgo) (e_lst e_nil rfl (by simp [lim])) (fEq_nil rfl))), ?_⟩
        exact ⟨fun _ => ⟨w, by rw [hb], hv, h3, by simp [hb, h3]⟩, (nomatch ·)⟩
      · have h3' : ¬ (w.length : Int) ≤ 300 := by omega
        rw [decide_eq_false h3'] at t
        exact ⟨false, e_and1 v21 (e_and0 t), (nomatch ·), fun _ => by simp [h3]⟩
    · rw [decide_eq_false hb] at v21
      exact ⟨false, e_and0 v21, (nomatch ·), fun _ => by simp [hb]⟩
end
end GD
/-! Kx -/
set_option maxHeartbeats 4000000
/-! Kx: the law's own body, the loop over the values. -/
namespace GD
open PySem L2
section
variable {g : Gp} {u : Nu} {s : Nat}
theorem dueC_ok (ok : GpOk g) (nu : NuOk g u) (hs : s < g.B) {FW FD : MF} {b : Int} {S Sw : Sl} {r : Rw} {k : Kd} {v : D} {c cB : Bool} (hFW : ∀ i r, i < g.B → FW [g.gs i, u.lk] r = some (⟨.int (u.W i), .dat⟩, r)) (hFD : ∀ w r, valid g w → FD [g.gs s, wdD g w] r = some (⟨g.gs (wk g s w), .dat⟩, r))
    (h1 : cB = true → ∃ w, v = .tup [.int b, wdD g w] ∧ valid g w ∧ w.length ≤ 300 ∧ c = decide (val g u s w = b)) (h2 : cB = false → c = false) (h20 : S[20]? = some (some (.dat v))) (h21 : S[21]? = some (some (.dat (.bl cB)))) (h17 : S[17]? = some (some (.dat (.int b)))) (h8 : S[8]? = some (some (.dat (g.gs s)))) (h4 : S[4]? = some (some (.dat u.lk)))
    (hw : wipeS S [15] = Sw) (h10 : ∀ d, mVar 10 ⟨Sw.set 15 d, r⟩ = some (⟨.dT (tabL g u), k⟩, r)) (hl : 15 < Sw.length) : dueC FW FD ⟨S, r⟩ = some (⟨.bl c, .dat⟩, r) := by
  have v20 := e_var (r := r) h20
  have v21 := e_var (r := r) h21
  have v17 := e_var (r := r) h17
  have v8 := e_var (r := r) h8
  have v4 := e_var (r := r) h4
  cases cB with
  | false => rw [h2 rfl]; exact e_and0 v21
  | true =>
    obtain ⟨w, rfl, hv, hlen, rfl⟩ := h1 rfl
    have x1 : fIx (.tup [.int b, wdD g w]) (.int 1) = some ⟨wdD g w, .dat⟩ := rfl
    have m1 := e_bin (f := fIx) v20 (e_cst (d := .int 1)) x1
    have hgo := mLcGo_all (t := .one 15) (me := mBin fIx (mVar 10) (mVar 15)) (slw := Sw) (r := r) g.st (fun j => D.int (u.pr j)) (L := w) (by have : lim = 1000000 := rfl; omega) (fun j hj => ⟨_, .dat, by decide, rfl, e_bin (f := fIx) (h10 _) (e_var (i := 15) (d := g.st j) (by rw [List.getElem?_set_self hl])) (fIx_tabL ok (hv j hj))⟩)
    have hmap : (w.map fun j => D.int (u.pr j)) = (w.map u.pr).map D.int := by rw [List.map_map]; rfl
    rw [hmap] at hgo
    have hsum : f1 gSum [.lst ((w.map u.pr).map D.int)] = some ⟨.int (cost u w), .dat⟩ := gSum_ints _
    have a1 := e_fn (n := 2) (F := FD) (e_cons v8 (e_cons m1 e_nil)) rfl rfl (hFD w r hv) rfl
    have a2 := e_fn (n := 2) (F := FW) (e_cons a1 (e_cons v4 e_nil)) rfl rfl (hFW _ r (wk_lt ok hs hv)) rfl
    have a3 := e_call (f := f1 gSum) (e_cons (e_lc (vs := [15]) (mt := mYes) (e_it m1 (rfl : itD (wdD g w) = some (w.map g.st))) hw hgo) e_nil) hsum
    exact e_and1 v21 (e_bin (f := fEq) (e_bin (f := fSub) a2 a3 (fSub_int _ _)) v17 (fEq_int (u.W (wk g s w) - cost u w) b))
abbrev netBody (FW FD F : MF) : MSt := (mSeq (mAsg 21 dueA) (mSeq (mAsg 21 dueB) (mSeq (mAsg 21 (dueC FW FD))
 (mIfS (mTNot (mTb (mFn 2 f__law_alike (mCons (mFn 4 F (mCons (mVar 8) (mCons (mVar 4) (mCons (mVar 5) (mCons (mVar 20) mNil))))) (mCons (mVar 21) mNil)))))
 (mRet (mCst (.bl false)))
 mNext))))
theorem net_val (ok : GpOk g) (nu : NuOk g u) (hs : s < g.B) {FW FD F : MF} {K : Nat} {b : Int} {w0 : List Nat} {f : List (Nat × Int)} {a6 a7 a9 a12 a13 a14 a15 a16 a21 a22 : Option SV} {r : Rw} {v : D} {c : Bool} (hFW : ∀ i r, i < g.B → FW [g.gs i, u.lk] r = some (⟨.int (u.W i), .dat⟩, r)) (hFD : ∀ w r, valid g w → FD [g.gs s, wdD g w] r = some (⟨g.gs (wk g s w), .dat⟩, r))
    (hv : NetV g u s b v c) (h7 : isD a7 (stD g)) (hF : F [g.gs s, u.lk, u.ps, v] r = some (⟨.bl c, .dat⟩, r)) :
    netBody FW FD F ⟨slX g u s K b w0 f a6 a7 a9 a12 a13 a14 a15 a16 (some (.dat v)) a21 a22, r⟩ = some (.nx (slX g u s K b w0 f a6 a7 a9 a12 a13 a14 a15 a16 (some (.dat v)) (some (.dat (.bl c))) a22), r) := by
  have s1 := e_asg (S := slX g u s K b w0 f a6 a7 a9 a12 a13 a14 a15 a16 (some (.dat v)) a21 a22) (r := r) (i := 21) (dueA_ok hv rfl rfl) rfl
  have hw : ∀ a21, wipeS (slX g u s K b w0 f a6 a7 a9 a12 a13 a14 a15 a16 (some (.dat v)) a21 a22) [15] = slX g u s K b w0 f a6 a7 a9 a12 a13 a14 none a16 (some (.dat v)) a21 a22 := fun _ => rfl
  have h7' : ∃ k, ∀ a21 d, mVar 7 ⟨(slX g u s K b w0 f a6 a7 a9 a12 a13 a14 none a16 (some (.dat v)) a21 a22).set 15 d, r⟩ = some (⟨stD g, k⟩, r) := by
    rcases h7 with rfl | rfl
    · exact ⟨_, fun _ _ => rfl⟩
    · exact ⟨_, fun _ _ => rfl⟩
  obtain ⟨k, h7'⟩ := h7'
  obtain ⟨cB, hB, hB1, hB2⟩ := dueB_ok ok hv (S := slX g u s K b w0 f a6 a7 a9 a12 a13 a14 a15 a16 (some (.dat v)) (some (.dat (.bl (netA b v)))) a22) (r := r) rfl rfl (hw _) (h7' _) (by simp [slX, slW])
  have s2 := e_asg (i := 21) hB rfl
  have hC := dueC_ok ok nu hs (S := slX g u s K b w0 f a6 a7 a9 a12 a13 a14 a15 a16 (some (.dat v)) (some (.dat (.bl cB))) a22) (r := r) (k := .bor) hFW hFD hB1 hB2 rfl rfl rfl rfl rfl (hw _) (fun d => rfl) (by simp [slX, slW])
  have s3 := e_asg (i := 21) hC rfl
  refine (mSeq_nx s1).trans ((mSeq_nx s2).trans ((mSeq_nx s3).trans ?_))
  have t := e_not (e_tb (e_fn (S := slX g u s K b w0 f a6 a7 a9 a12 a13 a14 a15 a16 (some (.dat v)) (some (.dat (.bl c))) a22) (r := r) (n := 2) (F := f__law_alike) (e_cons (e_fn (n := 4) (F := F) (e_cons (e_var (i := 8) rfl) (e_cons (e_var (i := 4) rfl) (e_cons (e_var (i := 5) rfl) (e_cons (e_var (i := 20) rfl) e_nil)))) rfl rfl hF rfl) (e_cons (e_var (i := 21) (d := .bl c) rfl) e_nil)) rfl rfl (alike_ok c c r) rfl))
  rw [decide_eq_true rfl] at t
  show mIfS _ _ _ ⟨slX g u s K b w0 f a6 a7 a9 a12 a13 a14 a15 a16 (some (.dat v)) (some (.dat (.bl c))) a22, r⟩ = _
  unfold mIfS
  rw [t]; rfl
abbrev netVals (F : MF) : ME := (mLst (mCons (mVar 18) (mCons (mCall gListA (mCons (mVar 18) mNil)) (mCons (mTup (mCons (mVar 17) (mCons (mCall gListA (mCons (mVar 19) mNil)) mNil))) (mCons (mTup (mCons (mBin fAdd (mVar 17) (mCst (.int 1))) (mCons (mVar 19) mNil))) (mCons (mTup (mCons (mVar 17) (mCons (mSl fSlT (mVar 19) (mOSome (mCst (.int 1))) mONone) mNil))) (mCons (mTup (mCons (mVar 17) (mCons (mTup mNil) mNil))) (mCons (mCst .non) (mCons (mCst (.int 3)) (mCons (mTup (mCons (mVar 17) (mCons (mFn 3 F (mCons (mVar 1) (mCons (mVar 2) (mCons (mCst (.int 3)) mNil)))) mNil))) (mCons (mTup (mCons (mVar 17) (mCons (mTup (mCons (mTup (mCons (mVar 2) mNil)) mNil)) mNil))) mNil)))))))))))
theorem net_list {F : MF} {K : Nat} {b : Int} {w0 w1 : List Nat} {f : List (Nat × Int)} {a6 a7 a9 a12 a13 a14 a15 a16 a20 a21 a22 : Option SV} {r r' : Rw} (hv : valid g w0) (hv1 : valid g w1) (hF : F [.row, .int g.n, .int 3] r = some (⟨wdD g w1, .dat⟩, r')) :
    ∃ L, mIt (netVals F) ⟨slX g u s K b w0 f a6 a7 a9 a12 a13 a14 a15 a16 a20 a21 a22, r⟩ = some (L, true, r') ∧ ∀ v ∈ L, ∃ c, NetV g u s b v c := by
  generalize hS : slX g u s K b w0 f a6 a7 a9 a12 a13 a14 a15 a16 a20 a21 a22 = S
  have v18 : ∀ r, mVar 18 ⟨S, r⟩ = some (⟨bestD g b w0, .dat⟩, r) := fun r => by rw [← hS]; rfl
  have v17 : ∀ r, mVar 17 ⟨S, r⟩ = some (⟨.int b, .dat⟩, r) := fun r => by rw [← hS]; rfl
  have v19 : ∀ r, mVar 19 ⟨S, r⟩ = some (⟨wdD g w0, .dat⟩, r) := fun r => by rw [← hS]; rfl
  have v1 : ∀ r, mVar 1 ⟨S, r⟩ = some (⟨.row, .dat⟩, r) := fun r => by rw [← hS]; rfl
  have v2 : ∀ r, mVar 2 ⟨S, r⟩ = some (⟨.int g.n, .dat⟩, r) := fun r => by rw [← hS]; rfl
  have q2 := e_call (f := gListA) (e := ⟨.lst [.int b, .tup (w0.map g.st)], .new⟩) (e_cons (v18 r) e_nil) rfl
  have q3 := e_tup (e_cons (v17 r) (e_cons (e_call (f := gListA) (e := ⟨.lst (w0.map g.st), .new⟩) (e_cons (v19 r) e_nil) rfl) e_nil)) rfl (by simp [lim])
  have q4 := e_tup (e_cons (e_bin (f := fAdd) (v17 r) e_cst (fAdd_int b 1)) (e_cons (v19 r) e_nil)) rfl (by simp [lim])
  have q5 := e_tup (e_cons (v17 r) (e_cons (e_slT (lo := mOSome (mCst (.int 1))) (hi := mONone) (i := some 1) (j := none) (v19 r) rfl rfl) e_nil)) rfl (by simp [lim])
  have q6 := e_tup (e_cons (v17 r) (e_cons (e_tup (S := S) (r := r) e_nil rfl (by simp [lim])) e_nil)) rfl (by simp [lim])
  have q9 := e_tup (e_cons (v17 r) (e_cons (e_fn (n := 3) (F := F) (e_cons (v1 r) (e_cons (v2 r) (e_cons (e_cst (d := .int 3)) e_nil))) rfl rfl hF rfl) e_nil)) rfl (by simp [lim])
  have q10 := e_tup (e_cons (v17 r') (e_cons (e_tup (e_cons (e_tup (e_cons (v2 r') e_nil) rfl (by simp [lim])) e_nil) rfl (by simp [lim])) e_nil)) rfl (by simp [lim])
  have hall := e_it (e_lst (e_cons (v18 r) (e_cons q2 (e_cons q3 (e_cons q4 (e_cons q5 (e_cons q6 (e_cons (e_cst (d := .non)) (e_cons (e_cst (d := .int 3)) (e_cons q9 (e_cons q10 e_nil)))))))))) rfl (by simp [lim])) (rfl : itD (D.lst _) = some _)
  refine ⟨_, hall, fun v hv' => ?_⟩
  have e5 : (.tup [.int b, .tup (cutD (w0.map g.st) (some 1) none)] : D) = .tup [.int b, wdD g w0.tail] := by rw [cut_tail]
  simp only [List.map_cons, List.map_nil, List.mem_cons, List.not_mem_nil, or_false] at hv'
  rcases hv' with rfl | rfl | rfl | rfl | rfl | rfl | rfl | rfl | rfl | rfl
  · exact ⟨_, .word b w0 hv⟩
  · exact ⟨_, .no _ rfl⟩
  · exact ⟨_, .noword b _ rfl⟩
  · exact ⟨_, .word (b + 1) w0 hv⟩
  · rw [e5]
    exact ⟨_, .word b w0.tail (fun j hj => hv j (List.mem_of_mem_tail hj))⟩
  · exact ⟨_, .word b [] (fun j hj => (nomatch hj))⟩
  · exact ⟨_, .no _ rfl⟩
  · exact ⟨_, .no _ rfl⟩
  · exact ⟨_, .word b w1 hv1⟩
  · exact ⟨_, .far b⟩
theorem net_loop (ok : GpOk g) (nu : NuOk g u) (hs : s < g.B) {FW FD F FR : MF} {K : Nat} {b : Int} {w0 w1 : List Nat} {f : List (Nat × Int)} {a6 a7 a9 a12 a13 a14 a15 a16 a20 a21 a22 : Option SV} {r r' : Rw} (hv : valid g w0) (hv1 : valid g w1) (hFR : FR [.row, .int g.n, .int 3] r = some (⟨wdD g w1, .dat⟩, r'))
    (hFW : ∀ i r, i < g.B → FW [g.gs i, u.lk] r = some (⟨.int (u.W i), .dat⟩, r)) (hFD : ∀ w r, valid g w → FD [g.gs s, wdD g w] r = some (⟨g.gs (wk g s w), .dat⟩, r)) (h7 : isD a7 (stD g)) (hF : ∀ v c, NetV g u s b v c → F [g.gs s, u.lk, u.ps, v] r' = some (⟨.bl c, .dat⟩, r')) :
    ∃ c20 c21, (mForS (.one 20) (mIt (netVals FR)) (netBody FW FD F)) ⟨slX g u s K b w0 f a6 a7 a9 a12 a13 a14 a15 a16 a20 a21 a22, r⟩ = some (.nx (slX g u s K b w0 f a6 a7 a9 a12 a13 a14 a15 a16 c20 c21 a22), r') := by
  obtain ⟨L, hit, hL⟩ := net_list (u := u) (s := s) (K := K) (b := b) (f := f) (a6 := a6) (a7 := a7) (a9 := a9) (a12 := a12) (a13 := a13) (a14 := a14) (a15 := a15) (a16 := a16) (a20 := a20) (a21 := a21) (a22 := a22) hv hv1 hFR
  obtain ⟨sl', w1, c20, c21, rfl⟩ := mFor_rel (t := .one 20) (body := netBody FW FD F) (r := r') (fun d : D => d)
    (fun Q sl => ∃ c20 c21, sl = slX g u s K b w0 f a6 a7 a9 a12 a13 a14 a15 a16 c20 c21 a22)
    L L [] (slX g u s K b w0 f a6 a7 a9 a12 a13 a14 a15 a16 a20 a21 a22) rfl
    (fun Q v rest sl hp ⟨d20, d21, e⟩ => by
      subst e
      obtain ⟨c, hc⟩ := hL v (by rw [← hp]; simp)
      exact ⟨_, _, rfl, net_val ok nu hs hFW hFD hc h7 (hF v c hc), some (.dat v), some (.dat (.bl c)), rfl⟩)
    ⟨a20, a21, rfl⟩
  rw [List.map_id'] at w1
  refine ⟨c20, c21, ?_⟩
  unfold mForS
  rw [hit]
  exact w1
end
end GD
/-! Ky -/
set_option maxHeartbeats 4000000
/-! Ky: the law's own body behind its table of prices. -/
namespace GD
open PySem L2
theorem e_d1 {S : Sl} {r r1 r2 : Rw} {A B : ME} {d e : D} {k k2 : Kd} (hA : A ⟨S, r⟩ = some (⟨d, k⟩, r1)) (hB : B ⟨S, r1⟩ = some (⟨e, k2⟩, r2)) (hk : keyOk d = true) (hb : noBorK ⟨e, k2⟩ = true) : mD1 A B ⟨S, r⟩ = some (⟨.dT [(d, e)], .new⟩, r2) := by
  unfold mD1
  simp only
  rw [hA, Option.bind_some]
  simp only
  rw [hB, Option.bind_some]
  simp only
  rw [hk, hb]; rfl
section
variable {g : Gp} {u : Nu} {s : Nat}
def slP (g : Gp) (u : Nu) (s K : Nat) (a6 a7 a9 : Option SV) : Sl := none :: some (.dat .row) :: some (.dat (.int g.n)) :: some (.dat (.int K)) :: some (.dat u.lk) :: some (.dat u.ps) :: a6 :: a7 :: some (.dat (g.gs s)) :: a9 :: some (.own (.dT (tabL g u))) :: none :: none :: [none, none, none, none, none, none, none, none, none, none]
theorem lr7 (ok : GpOk g) (hs : s < g.B) {K : Nat} {a6 a7 a9 : Option SV} {r : Rw} : mPar [11, 12] (mCons (mD1 (mVar 8) (mCst (.int 0))) (mCons (mLst (mCons (mVar 8) mNil)) mNil)) ⟨slP g u s K a6 a7 a9, r⟩ = some (.nx (slW (pM g u s K a6 a9) a7 (.dT (tabL g u)) (encI g [(s, 0)]) (some (.own (lwD g [s]))) none [none, none, none, none, none, none, none, none, none]), r) :=
  e_par (e_cons (e_d1 (e_var (i := 8) rfl) e_cst (ok.gkey s hs) rfl) (e_cons (e_lst (e_cons (e_var (i := 8) rfl) e_nil) rfl (by simp [lim])) e_nil)) rfl
theorem lr9 (ok : GpOk g) {FW : MF} (hFW : ∀ i r, i < g.B → FW [g.gs i, u.lk] r = some (⟨.int (u.W i), .dat⟩, r)) {K : Nat} {b : Int} {f : List (Nat × Int)} (sd : Ld g u s f) (hm : maxI (f.map fun q => u.W q.1 - (lkA f q.1).getD 0) = some b) {a6 a7 a9 a12 a13 a14 a15 a16 a17 a18 a19 a20 a21 a22 : Option SV} {r : Rw} :
    mAsg 17 (mCall (f1 gMax) (mCons (mLc (.one 16) [16] (mIt (mVar 11)) mYes (mBin fSub (mFn 2 FW (mCons (mVar 16) (mCons (mVar 4) mNil))) (mBin fIx (mVar 11) (mVar 16)))) mNil)) ⟨slW (pM g u s K a6 a9) a7 (.dT (tabL g u)) (encI g f) a12 a13 [a14, a15, a16, a17, a18, a19, a20, a21, a22], r⟩
      = some (.nx (slW (pM g u s K a6 a9) a7 (.dT (tabL g u)) (encI g f) a12 a13 [a14, a15, a16, some (.dat (.int b)), a18, a19, a20, a21, a22]), r) := by
  have hl : f.length ≤ lim := by
    have := sd.len ok
    have : lim = 1000000 := rfl
    omega
  have hgo := mLcGo_all (t := .one 16) (me := mBin fSub (mFn 2 FW (mCons (mVar 16) (mCons (mVar 4) mNil))) (mBin fIx (mVar 11) (mVar 16))) (slw := slW (pM g u s K a6 a9) a7 (.dT (tabL g u)) (encI g f) a12 a13 [a14, a15, none, a17, a18, a19, a20, a21, a22]) (r := r) (fun q : Nat × Int => g.gs q.1) (fun q => D.int (u.W q.1 - (lkA f q.1).getD 0)) (L := f) hl (fun q hq => by
    have hk : q.1 ∈ f.map (·.1) := List.mem_map.mpr ⟨q, hq, rfl⟩
    obtain ⟨d, hd⟩ := lkA_key hk
    have hi := sd.keys _ hk
    have hx : fIx (encI g f) (g.gs q.1) = some ⟨.int d, .dat⟩ := by rw [fIx_dT, if_pos (ok.gkey _ hi), look_enc ok.gkeq sd.keys hi, hd]; rfl
    have e : (lkA f q.1).getD 0 = d := by rw [hd]; rfl
    rw [e]
    exact ⟨_, .dat, by decide, rfl, e_bin (f := fSub) (e_fn (n := 2) (F := FW) (e_cons (e_var (i := 16) rfl) (e_cons (e_var (i := 4) rfl) e_nil)) rfl rfl (hFW _ r hi) rfl) (e_bin (f := fIx) (e_varO (i := 11) rfl) (e_var (i := 16) rfl) hx) (fSub_int _ _)⟩)
  have hmap : (f.map fun q => D.int (u.W q.1 - (lkA f q.1).getD 0)) = (f.map fun q => u.W q.1 - (lkA f q.1).getD 0).map D.int := by rw [List.map_map]; rfl
  rw [hmap] at hgo
  have hmx : f1 gMax [.lst ((f.map fun q => u.W q.1 - (lkA f q.1).getD 0).map D.int)] = some ⟨.int b, .dat⟩ := by
    have e : f1 gMax [.lst ((f.map fun q => u.W q.1 - (lkA f q.1).getD 0).map D.int)] = gMax (.lst ((f.map fun q => u.W q.1 - (lkA f q.1).getD 0).map D.int)) := rfl
    rw [e, gMax_lst, intsD_map, Option.bind_some, hm]; rfl
  have hkeys : itD (encI g f) = some (f.map fun q : Nat × Int => g.gs q.1) := by
    have e : itD (encI g f) = some ((encA g.gs D.int f).map (·.1)) := rfl
    rw [e]
    unfold encA
    rw [List.map_map]; rfl
  exact e_asg (e_call (f := f1 gMax) (e_cons (e_lc (vs := [16]) (mt := mYes) (e_it (e_varO (i := 11) rfl) hkeys) rfl hgo) e_nil) hmx) rfl
theorem law_sim (ok : GpOk g) (nu : NuOk g u) (hs : s < g.B) {FS FW FB FR FD FV FY : MF} {K : Nat} {b : Int} {w0 w1 : List Nat} {a6 a7 a9 : Option SV} {r r' r2 : Rw} (h7 : isD a7 (stD g))
    (hFS : ∀ i j r, i < g.B → j < g.S → FS [g.gs i, g.st j] r = some (⟨g.gs (g.nx i j), .dat⟩, r)) (hFW : ∀ i r, i < g.B → FW [g.gs i, u.lk] r = some (⟨.int (u.W i), .dat⟩, r))
    (hv : valid g w0) (hl : w0.length ≤ 4) (hb : val g u s w0 = b) (hmax : ∀ w, valid g w → val g u s w ≤ b) (hFB : FB [g.gs s, u.lk, u.ps] r = some (⟨bestD g b w0, .dat⟩, r))
    (hv1 : valid g w1) (hFR : FR [.row, .int g.n, .int 3] r = some (⟨wdD g w1, .dat⟩, r')) (hFD : ∀ w r, valid g w → FD [g.gs s, wdD g w] r = some (⟨g.gs (wk g s w), .dat⟩, r))
    (hFV : ∀ v c, NetV g u s b v c → FV [g.gs s, u.lk, u.ps, v] r' = some (⟨.bl c, .dat⟩, r')) (hFY : FY [g.gs s, u.lk, u.ps, .dT (tabL g u), .int K, .row] r' = some (⟨.bl true, .dat⟩, r2)) :
    (mSeq (mPar [11, 12] (mCons (mD1 (mVar 8) (mCst (.int 0))) (mCons (mLst (mCons (mVar 8) mNil)) mNil)))
 (mSeq (mWh (mTb (mBin fNe (mVar 12) (mLst mNil)))
 (mSeq (mAsg 13 (mLst mNil)) (mSeq (mFrz 12 (mForS (.one 14) (mIt (mVar 12)) (mFrz 7 (mForS (.one 15) (mIt (mVar 7)) (lfStep FS))))) (mFrz 13 (mAsg 12 (mVar 13))))) 10000)
 (mSeq (mAsg 17 (mCall (f1 gMax) (mCons (mLc (.one 16) [16] (mIt (mVar 11)) mYes (mBin fSub (mFn 2 FW (mCons (mVar 16) (mCons (mVar 4) mNil))) (mBin fIx (mVar 11) (mVar 16)))) mNil)))
 (mSeq (mAsg 18 (mFn 3 FB (mCons (mVar 8) (mCons (mVar 4) (mCons (mVar 5) mNil)))))
 (mSeq (mAsg 19 (mBin fIx (mVar 18) (mCst (.int 1))))
 (mSeq (mForS (.one 20) (mIt (netVals FR)) (netBody FW FD FV))
 (mSeq (mIfS (mTb (mBin fIsNB (mFn 4 FV (mCons (mVar 8) (mCons (mVar 4) (mCons (mVar 5) (mCons (mVar 18) mNil))))) (mCst (.bl true))))
 (mRet (mCst (.bl false)))
 mNext)
 (mFrz 10 (mRet (mFn 6 FY (mCons (mVar 8) (mCons (mVar 4) (mCons (mVar 5) (mCons (mVar 10) (mCons (mVar 3) (mCons (mVar 1) mNil)))))))))))))))) ⟨slP g u s K a6 a7 a9, r⟩ = some (.rt ⟨.bl true, .dat⟩, r2) := by
  refine (mSeq_nx (lr7 ok hs)).trans ?_
  obtain ⟨f, c7, c12, c13, c14, c15, c16, w1', w2, sd, cl⟩ := lf_while (F := FS) (p := pM g u s K a6 a9) (a7 := a7) (a13 := none) (a14 := none) (a15 := none) (a16 := none) (t := [none, none, none, none, none, none]) (r := r) (n := 10000) ok nu hs hFS h7 (by omega)
  refine (mSeq_nx w1').trans ((mSeq_nx (lr9 ok hFW sd (best_max ok sd cl hv hb hmax))).trans ?_)
  have s18 := e_asg (S := slW (pM g u s K a6 a9) c7 (.dT (tabL g u)) (encI g f) c12 c13 [c14, c15, c16, some (.dat (.int b)), none, none, none, none, none]) (r := r) (i := 18) (e_fn (n := 3) (F := FB) (e_cons (e_var (i := 8) rfl) (e_cons (e_var (i := 4) rfl) (e_cons (e_var (i := 5) rfl) e_nil))) rfl rfl hFB rfl) rfl
  refine (mSeq_nx s18).trans ?_
  have x1 : fIx (bestD g b w0) (.int 1) = some ⟨wdD g w0, .dat⟩ := rfl
  have s19 := e_asg (S := slW (pM g u s K a6 a9) c7 (.dT (tabL g u)) (encI g f) c12 c13 [c14, c15, c16, some (.dat (.int b)), some (.dat (bestD g b w0)), none, none, none, none]) (r := r) (i := 19) (e_bin (f := fIx) (e_var (i := 18) rfl) e_cst x1) rfl
  refine (mSeq_nx s19).trans ?_
  obtain ⟨c20, c21, w3⟩ := net_loop ok nu hs (FR := FR) (F := FV) (K := K) (f := f) (a6 := a6) (a7 := c7) (a9 := a9) (a12 := c12) (a13 := c13) (a14 := c14) (a15 := c15) (a16 := c16) (a20 := none) (a21 := none) (a22 := none) hv hv1 hFR hFW hFD w2 hFV
  refine (mSeq_nx w3).trans ?_
  have hn := hFV _ _ (.word b w0 hv)
  have ht : (decide (b = b) && (decide (w0.length ≤ 300) && decide (val g u s w0 = b))) = true := by
    rw [decide_eq_true (by omega : w0.length ≤ 300), decide_eq_true hb]
    simp
  rw [ht] at hn
  have t := e_tb (e_bin (S := slX g u s K b w0 f a6 c7 a9 c12 c13 c14 c15 c16 c20 c21 none) (r := r') (f := fIsNB) (e_fn (n := 4) (F := FV) (e_cons (e_var (i := 8) rfl) (e_cons (e_var (i := 4) rfl) (e_cons (e_var (i := 5) rfl) (e_cons (e_var (i := 18) rfl) e_nil)))) rfl rfl hn rfl) e_cst (rfl : fIsNB (.bl true) (.bl true) = some ⟨.bl false, .dat⟩))
  refine (mSeq_if0 t).trans ?_
  unfold mFrz
  simp only
  have e : frz 10 (slX g u s K b w0 f a6 c7 a9 c12 c13 c14 c15 c16 c20 c21 none) = (slX g u s K b w0 f a6 c7 a9 c12 c13 c14 c15 c16 c20 c21 none).set 10 (some (.dat (.dT (tabL g u)))) := rfl
  rw [e]
  exact e_ret (e_fn (n := 6) (F := FY) (e_cons (e_var (i := 8) rfl) (e_cons (e_var (i := 4) rfl) (e_cons (e_var (i := 5) rfl) (e_cons (e_var (i := 10) rfl) (e_cons (e_var (i := 3) rfl) (e_cons (e_var (i := 1) rfl) e_nil)))))) rfl rfl hFY rfl) rfl
abbrev lawRest (ns : List Int) : MSt := (mSeq (mPar [11, 12] (mCons (mD1 (mVar 8) (mCst (.int 0))) (mCons (mLst (mCons (mVar 8) mNil)) mNil)))
 (mSeq (mWh (mTb (mBin fNe (mVar 12) (mLst mNil)))
 (mSeq (mAsg 13 (mLst mNil)) (mSeq (mFrz 12 (mForS (.one 14) (mIt (mVar 12)) (mFrz 7 (mForS (.one 15) (mIt (mVar 7)) (lfStep f__law_step))))) (mFrz 13 (mAsg 12 (mVar 13))))) 10000)
 (mSeq (mAsg 17 (mCall (f1 gMax) (mCons (mLc (.one 16) [16] (mIt (mVar 11)) mYes (mBin fSub (mFn 2 f__law_worth (mCons (mVar 16) (mCons (mVar 4) mNil))) (mBin fIx (mVar 11) (mVar 16)))) mNil)))
 (mSeq (mAsg 18 (mFn 3 f_best_net (mCons (mVar 8) (mCons (mVar 4) (mCons (mVar 5) mNil)))))
 (mSeq (mAsg 19 (mBin fIx (mVar 18) (mCst (.int 1))))
 (mSeq (mForS (.one 20) (mIt (netVals (f__law_row ns))) (netBody f__law_worth f__law_done f_shows_best_net))
 (mSeq (mIfS (mTb (mBin fIsNB (mFn 4 f_shows_best_net (mCons (mVar 8) (mCons (mVar 4) (mCons (mVar 5) (mCons (mVar 18) mNil))))) (mCst (.bl true))))
 (mRet (mCst (.bl false)))
 mNext)
 (mFrz 10 (mRet (mFn 6 (f__law_stays ns) (mCons (mVar 8) (mCons (mVar 4) (mCons (mVar 5) (mCons (mVar 10) (mCons (mVar 3) (mCons (mVar 1) mNil))))))))))))))))
theorem law_rest (ok : GpOk g) (nu : NuOk g u) (hs : s < g.B) (ns : List Int) {K : Nat} (h1 : 1 ≤ K) (hK : K ≤ 2) {a6 a7 a9 : Option SV} (h7 : isD a7 (stD g)) {r : Rw} (hr : 0 ≤ r.i) : ∃ r2, lawRest ns ⟨slP g u s K a6 a7 a9, r⟩ = some (.rt ⟨.bl true, .dat⟩, r2) := by
  obtain ⟨b, w0, hn, hv, hl, hb, hmax⟩ := net_of_ok ok nu hs r
  obtain ⟨w1, r', hv1, _, hFR, hr'⟩ := row_ok ok ns hr
  obtain ⟨r2, hY⟩ := stays_ok ok nu hs ns h1 hK hr'
  refine ⟨r2, law_sim ok nu hs h7 ok.lstep nu.lworth hv hl hb hmax (best_net_ok ok nu hs hn) hv1 hFR (fun w r hw => done_ok ok hs hw r) (fun v c hvc => ?_) hY⟩
  obtain ⟨b2, w2, hn2, hv2, _, hb2, hmax2⟩ := net_of_ok ok nu hs r'
  have : b2 = b := by
    have q1 := hmax w2 hv2
    have q2 := hmax2 w0 hv
    omega
  subst this
  exact shows_net_ok ok nu hs hn2 hvc
end
end GD
/-! Kz -/
set_option maxHeartbeats 4000000
/-! Kz: the law's head: its draws, its table of prices. -/
namespace GD
open PySem L2
def slH (n K : Nat) (a4 a5 a6 a7 a8 a9 a10 : Option SV) : Sl := none :: some (.dat .row) :: some (.dat (.int n)) :: some (.dat (.int K)) :: a4 :: a5 :: a6 :: a7 :: a8 :: a9 :: a10 :: [none, none, none, none, none, none, none, none, none, none, none, none]
theorem e_take (ns : List Int) {S : Sl} {r : Rw} {m : Int} (h : S[1]? = some (some (.dat .row))) (h1 : 0 < m) (h2 : m < 1073741824) (hr : 0 ≤ r.i) : ∃ v r', mFn 2 (f__law_taken ns) (mCons (mVar 1) (mCons (mCst (.int m)) mNil)) ⟨S, r⟩ = some (⟨.int v, .dat⟩, r') ∧ 0 ≤ v ∧ v < m ∧ 0 ≤ r'.i := by
  obtain ⟨v, r', h3, h4, h5, h6⟩ := taken_ok ns h1 h2 hr
  exact ⟨v, r', e_fn (n := 2) (e_cons (e_var h) (e_cons e_cst e_nil)) rfl rfl h3 rfl, h4, h5, h6⟩
def slL0 : Sl := none :: some (.dat .row) :: List.replicate 21 none
theorem hd1 (ns : List Int) : ∃ (n K : Nat) (r' : Rw), mPar [2, 3] (mCons (mBin fAdd (mCst (.int 1)) (mFn 2 (f__law_taken ns) (mCons (mVar 1) (mCons (mCst (.int 3)) mNil)))) (mCons (mBin fAdd (mCst (.int 1)) (mFn 2 (f__law_taken ns) (mCons (mVar 1) (mCons (mCst (.int 2)) mNil)))) mNil)) ⟨slL0, ⟨0, 13616, 0⟩⟩ = some (.nx (slH n K none none none none none none none), r')
    ∧ (n = 1 ∨ n = 2 ∨ n = 3) ∧ 1 ≤ K ∧ K ≤ 2 ∧ 0 ≤ r'.i := by
  obtain ⟨v, r1, h1, h2, h3, h4⟩ := e_take ns (S := slL0) (r := ⟨0, 13616, 0⟩) (m := 3) rfl (by omega) (by omega) (by decide)
  obtain ⟨v2, r2, g1, g2, g3, g4⟩ := e_take ns (S := slL0) (r := r1) (m := 2) rfl (by omega) (by omega) h4
  obtain ⟨k, rfl⟩ : ∃ k : Nat, v = k := ⟨v.toNat, by omega⟩
  obtain ⟨k2, rfl⟩ : ∃ k : Nat, v2 = k := ⟨v2.toNat, by omega⟩
  refine ⟨1 + k, 1 + k2, r2, ?_, by omega, by omega, by omega, g4⟩
  have a1 : fAdd (.int 1) (.int k) = some ⟨.int ((1 + k : Nat) : Int), .dat⟩ := by
    rw [fAdd_int]
    have : (1 : Int) + (k : Int) = ((1 + k : Nat) : Int) := by omega
    rw [this]
  have a2 : fAdd (.int 1) (.int k2) = some ⟨.int ((1 + k2 : Nat) : Int), .dat⟩ := by
    rw [fAdd_int]
    have : (1 : Int) + (k2 : Int) = ((1 + k2 : Nat) : Int) := by omega
    rw [this]
  exact e_par (e_cons (e_bin (f := fAdd) e_cst h1 a1) (e_cons (e_bin (f := fAdd) e_cst g1 a2) e_nil)) rfl
/-- a tuple of drawn numbers -/
theorem drawn {S : Sl} {r : Rw} {mi : MI} {me : ME} {k : Nat} {lo hi : Int} (hk : k ≤ 1000) (hmi : mi ⟨S, r⟩ = some ((List.range k).map (fun (i : Nat) => D.int (0 + (i : Nat))), true, r)) (hw : wipeS S [22] = S) (hS : ∀ d, (S.set 22 d)[1]? = some (some (.dat .row))) (hr : 0 ≤ r.i)
    (hme : ∀ (S : Sl) (r : Rw), S[1]? = some (some (.dat .row)) → 0 ≤ r.i → ∃ v r', me ⟨S, r⟩ = some (⟨.int v, .dat⟩, r') ∧ lo ≤ v ∧ v ≤ hi ∧ 0 ≤ r'.i) :
    ∃ (ls : List Int) (r' : Rw), mCall (f1 gTuple) (mCons (mLc (.one 22) [22] mi mYes me) mNil) ⟨S, r⟩ = some (⟨.tup (ls.map D.int), .dat⟩, r') ∧ ls.length = k ∧ (∀ x ∈ ls, lo ≤ x ∧ x ≤ hi) ∧ 0 ≤ r'.i := by
  obtain ⟨M, r', g1, g2, g3, g4⟩ := mLcGo_draw (t := .one 22) (me := me) (slw := S) (fun d => ∃ i : Int, d = .int i ∧ lo ≤ i ∧ i ≤ hi) (fun r => 0 ≤ r.i) (L := (List.range k).map (fun (i : Nat) => D.int (0 + (i : Nat)))) (acc := []) (r := r) (by simp; have : lim = 1000000 := rfl; omega) hr (fun x _ r hr => by
    obtain ⟨v, r', q1, q2, q3, q4⟩ := hme (S.set 22 (some (.dat x))) r (hS _) hr
    exact ⟨_, _, .dat, r', rfl, q1, by decide, ⟨v, rfl, q2, q3⟩, q4⟩)
  have hM : ∃ ls : List Int, M = ls.map D.int ∧ ∀ x ∈ ls, lo ≤ x ∧ x ≤ hi := by
    have : ∀ M : List D, (∀ d ∈ M, ∃ i : Int, d = .int i ∧ lo ≤ i ∧ i ≤ hi) → ∃ ls : List Int, M = ls.map D.int ∧ ∀ x ∈ ls, lo ≤ x ∧ x ≤ hi := by
      intro M
      induction M with
      | nil => exact fun _ => ⟨[], rfl, fun j hj => (nomatch hj)⟩
      | cons d M ih =>
        intro h
        obtain ⟨i, rfl, hi⟩ := h d List.mem_cons_self
        obtain ⟨ls, rfl, hls⟩ := ih fun e he => h e (List.mem_cons_of_mem _ he)
        exact ⟨i :: ls, rfl, fun m hm => (List.mem_cons.mp hm).elim (fun e => e ▸ hi) (hls m)⟩
    exact this M g3
  obtain ⟨ls, rfl, hls⟩ := hM
  exact ⟨ls, r', e_call (f := f1 gTuple) (e_cons (e_lc (vs := [22]) hmi hw g1) e_nil) rfl, by simpa using g2, hls, g4⟩
abbrev manyM : ME := (mBin fDiv (mBin fMul (mVar 2) (mBin fSub (mVar 2) (mCst (.int 1)))) (mCst (.int 2)))
abbrev pairsM : ME := (mLc (.one 15) [15] (mIt (mFn 1 f__law_steps (mCons (mVar 2) mNil))) (mTb (mBin fEq (mCall (f1 gLen) (mCons (mVar 15) mNil)) (mCst (.int 2)))) (mVar 15))
abbrev tableM : ME := (mCall (f1 gDictP) (mCons (mLc (.one 15) [15] (mIt (mVar 7)) mYes (mTup (mCons (mVar 15) (mCons (mIf (mTb (mBin fEq (mCall (f1 gLen) (mCons (mVar 15) mNil)) (mCst (.int 1)))) (mBin fIx (mBin fIx (mVar 5) (mCst (.int 0))) (mBin fIx (mVar 15) (mCst (.int 0)))) (mBin fIx (mBin fIx (mVar 5) (mCst (.int 1))) (mBin fIdx (mVar 9) (mVar 15)))) mNil)))) mNil))
/-- the size's likings and prices make a table -/
structure FitOk (g : Gp) (k : Nat) : Prop where
  many : ∀ S r, S[2]? = some (some (.dat (.int g.n))) → manyM ⟨S, r⟩ = some (⟨.int k, .dat⟩, r)
  k3 : k ≤ 3
  b1 : 0 < g.B
  fit : ∀ ls p0 p1 : List Int, ls.length = k → p0.length = g.n → p1.length = k → (∀ x ∈ ls, -7 ≤ x ∧ x ≤ 7) → (∀ x ∈ p0, 0 ≤ x ∧ x ≤ 5) → (∀ x ∈ p1, 0 ≤ x ∧ x ≤ 5) → ∃ (u : Nu) (pl : List D), NuOk g u ∧ u.lk = .tup (ls.map D.int) ∧ u.ps = .tup [.tup (p0.map D.int), .tup (p1.map D.int)]
    ∧ (∀ K a6 a7 r, pairsM ⟨slH g.n K (some (.dat u.lk)) (some (.dat u.ps)) a6 a7 none none none, r⟩ = some (⟨.lst pl, .new⟩, r))
    ∧ (∀ K a6 a8 r, tableM ⟨slH g.n K (some (.dat u.lk)) (some (.dat u.ps)) a6 (some (.own (stD g))) a8 (some (.own (.lst pl))) none, r⟩ = some (⟨.dT (tabL g u), .new⟩, r))
abbrev likesM (ns : List Int) : ME := (mCall (f1 gTuple) (mCons (mLc (.one 22) [22] (mRng1 (mCons manyM mNil)) mYes (mBin fSub (mFn 2 (f__law_taken ns) (mCons (mVar 1) (mCons (mCst (.int 15)) mNil))) (mCst (.int 7)))) mNil))
abbrev pricesM (ns : List Int) : ME := (mTup (mCons (mCall (f1 gTuple) (mCons (mLc (.one 22) [22] (mRng1 (mCons (mVar 2) mNil)) mYes (mFn 2 (f__law_taken ns) (mCons (mVar 1) (mCons (mCst (.int 6)) mNil)))) mNil)) (mCons (mCall (f1 gTuple) (mCons (mLc (.one 22) [22] (mRng1 (mCons manyM mNil)) mYes (mFn 2 (f__law_taken ns) (mCons (mVar 1) (mCons (mCst (.int 6)) mNil)))) mNil)) mNil)))
abbrev lawMid (ns : List Int) : MSt := (mSeq (mAsg 4 (likesM ns))
 (mSeq (mAsg 5 (pricesM ns))
 (mSeq (mPar [6, 7] (mCons (mFn 1 f__law_groupings (mCons (mVar 2) mNil)) (mCons (mFn 1 f__law_steps (mCons (mVar 2) mNil)) mNil)))
 (mSeq (mFrz 6 (mPar [8, 9] (mCons (mFn 2 (f__law_pick ns) (mCons (mVar 1) (mCons (mVar 6) mNil))) (mCons pairsM mNil))))
 (mSeq (mAsg 10 tableM) (lawRest ns))))))
theorem law_eq (ns : List Int) : m_law ns = (mSeq (mPar [2, 3] (mCons (mBin fAdd (mCst (.int 1)) (mFn 2 (f__law_taken ns) (mCons (mVar 1) (mCons (mCst (.int 3)) mNil)))) (mCons (mBin fAdd (mCst (.int 1)) (mFn 2 (f__law_taken ns) (mCons (mVar 1) (mCons (mCst (.int 2)) mNil)))) mNil))) (lawMid ns)) := rfl
theorem law_mid {g : Gp} {k : Nat} (ok : GpOk g) (fo : FitOk g k) (ns : List Int) {K : Nat} (h1 : 1 ≤ K) (hK : K ≤ 2) {r : Rw} (hr : 0 ≤ r.i) : ∃ r2, lawMid ns ⟨slH g.n K none none none none none none none, r⟩ = some (.rt ⟨.bl true, .dat⟩, r2) := by
  have k3 := fo.k3
  have n3 : g.n ≤ 3 := by rcases ok.n3 with h | h | h <;> omega
  have take6 : ∀ (S : Sl) (r : Rw), S[1]? = some (some (.dat .row)) → 0 ≤ r.i → ∃ v r', mFn 2 (f__law_taken ns) (mCons (mVar 1) (mCons (mCst (.int 6)) mNil)) ⟨S, r⟩ = some (⟨.int v, .dat⟩, r') ∧ 0 ≤ v ∧ v ≤ 5 ∧ 0 ≤ r'.i := fun S r hS hr => by
    obtain ⟨v, r', q1, q2, q3, q4⟩ := e_take ns (m := 6) hS (by omega) (by omega) hr
    exact ⟨v, r', q1, q2, by omega, q4⟩
  have take15 : ∀ (S : Sl) (r : Rw), S[1]? = some (some (.dat .row)) → 0 ≤ r.i → ∃ v r', mBin fSub (mFn 2 (f__law_taken ns) (mCons (mVar 1) (mCons (mCst (.int 15)) mNil))) (mCst (.int 7)) ⟨S, r⟩ = some (⟨.int v, .dat⟩, r') ∧ -7 ≤ v ∧ v ≤ 7 ∧ 0 ≤ r'.i := fun S r hS hr => by
    obtain ⟨v, r', q1, q2, q3, q4⟩ := e_take ns (m := 15) hS (by omega) (by omega) hr
    exact ⟨v - 7, r', e_bin (f := fSub) q1 e_cst (fSub_int v 7), by omega, by omega, q4⟩
  have rngk : ∀ (S : Sl) (r : Rw), S[2]? = some (some (.dat (.int g.n))) → mRng1 (mCons manyM mNil) ⟨S, r⟩ = some ((List.range k).map (fun (i : Nat) => D.int (0 + (i : Nat))), true, r) := fun S r h => by
    refine (mRng1_eq (e_cons (fo.many S r h) e_nil)).trans ?_
    rw [if_pos (smallI_ok (by omega)), Int.toNat_natCast]; rfl
  obtain ⟨ls, r1, e1, l1, b1, g1⟩ := drawn (S := slH g.n K none none none none none none none) (r := r) (me := mBin fSub (mFn 2 (f__law_taken ns) (mCons (mVar 1) (mCons (mCst (.int 15)) mNil))) (mCst (.int 7))) (lo := -7) (hi := 7) (by omega) (rngk _ r rfl) rfl (fun _ => rfl) hr take15
  obtain ⟨p0, r2, e2, l2, b2, g2⟩ := drawn (S := slH g.n K (some (.dat (.tup (ls.map D.int)))) none none none none none none) (r := r1) (mi := mRng1 (mCons (mVar 2) mNil)) (me := mFn 2 (f__law_taken ns) (mCons (mVar 1) (mCons (mCst (.int 6)) mNil))) (k := g.n) (lo := 0) (hi := 5) (by omega) (mRng1_var rfl (by omega)) rfl (fun _ => rfl) g1 take6
  obtain ⟨p1, r3, e3, l3, b3, g3⟩ := drawn (S := slH g.n K (some (.dat (.tup (ls.map D.int)))) none none none none none none) (r := r2) (me := mFn 2 (f__law_taken ns) (mCons (mVar 1) (mCons (mCst (.int 6)) mNil))) (lo := 0) (hi := 5) (by omega) (rngk _ r2 rfl) rfl (fun _ => rfl) g2 take6
  obtain ⟨u, pl, nu, hlk, hps, hpairs, htab⟩ := fo.fit ls p0 p1 l1 l2 l3 b1 b2 b3
  have s1 := e_asg (i := 4) e1 rfl
  have s2 := e_asg (i := 5) (e_tup (e_cons e2 (e_cons e3 e_nil)) rfl (by simp [lim])) rfl
  have hps' : (.tup [.tup (p0.map D.int), .tup (p1.map D.int)] : D) = u.ps := hps.symm
  have hlk' : (.tup (ls.map D.int) : D) = u.lk := hlk.symm
  have s2' : mAsg 5 (pricesM ns) ⟨slH g.n K (some (.dat u.lk)) none none none none none none, r1⟩ = some (.nx (slH g.n K (some (.dat u.lk)) (some (.dat u.ps)) none none none none none), r3) := by
    rw [← hlk', ← hps']
    exact s2
  have s1' : mAsg 4 (likesM ns) ⟨slH g.n K none none none none none none none, r⟩ = some (.nx (slH g.n K (some (.dat u.lk)) none none none none none none), r1) := by
    rw [← hlk']
    exact s1
  have s3 : mPar [6, 7] (mCons (mFn 1 f__law_groupings (mCons (mVar 2) mNil)) (mCons (mFn 1 f__law_steps (mCons (mVar 2) mNil)) mNil)) ⟨slH g.n K (some (.dat u.lk)) (some (.dat u.ps)) none none none none none, r3⟩ = some (.nx (slH g.n K (some (.dat u.lk)) (some (.dat u.ps)) (some (.own (grD g))) (some (.own (stD g))) none none none), r3) :=
    e_par (e_cons (e_fn (n := 1) (F := f__law_groupings) (e_cons (e_var (i := 2) rfl) e_nil) rfl rfl (ok.lgroups r3) rfl) (e_cons (e_fn (n := 1) (F := f__law_steps) (e_cons (e_var (i := 2) rfl) e_nil) rfl rfl (ok.lsteps r3) rfl) e_nil)) rfl
  have hB := fo.b1
  obtain ⟨d, r4, hd, hp, g4⟩ := pick_ok ns (L := (List.range g.B).map g.gs) (by simpa using hB) (by have := ok.b5; simp; omega) g3
  obtain ⟨s, hs, rfl⟩ := List.mem_map.mp hd
  have hs := List.mem_range.mp hs
  have s4 : (mFrz 6 (mPar [8, 9] (mCons (mFn 2 (f__law_pick ns) (mCons (mVar 1) (mCons (mVar 6) mNil))) (mCons pairsM mNil)))) ⟨slH g.n K (some (.dat u.lk)) (some (.dat u.ps)) (some (.own (grD g))) (some (.own (stD g))) none none none, r3⟩ = some (.nx (slH g.n K (some (.dat u.lk)) (some (.dat u.ps)) (some (.dat (grD g))) (some (.own (stD g))) (some (.dat (g.gs s))) (some (.own (.lst pl))) none), r4) := by
    unfold mFrz
    simp only
    have e : frz 6 (slH g.n K (some (.dat u.lk)) (some (.dat u.ps)) (some (.own (grD g))) (some (.own (stD g))) none none none) = slH g.n K (some (.dat u.lk)) (some (.dat u.ps)) (some (.dat (grD g))) (some (.own (stD g))) none none none := rfl
    rw [e]
    exact e_par (e_cons (e_fn (n := 2) (e_cons (e_var (i := 1) rfl) (e_cons (e_var (i := 6) rfl) e_nil)) rfl rfl hp rfl) (e_cons (hpairs K _ _ r4) e_nil)) rfl
  have s5 := e_asg (i := 10) (htab K (some (.dat (grD g))) (some (.dat (g.gs s))) r4) rfl
  obtain ⟨r5, hrest⟩ := law_rest (u := u) ok nu hs ns h1 hK (a6 := some (.dat (grD g))) (a7 := some (.own (stD g))) (a9 := some (.own (.lst pl))) (.inr rfl) g4
  exact ⟨r5, (mSeq_nx s1').trans ((mSeq_nx s2').trans ((mSeq_nx s3).trans ((mSeq_nx s4).trans ((mSeq_nx s5).trans hrest))))⟩
theorem many2 (m k : Int) (h : fDiv (.int (m * (m - 1))) (.int 2) = some ⟨.int k, .dat⟩) (h2 : decide (-(2 ^ 64) < m - 1 ∧ m - 1 < 2 ^ 64) = true) : ∀ (S : Sl) (r : Rw), S[2]? = some (some (.dat (.int m))) → manyM ⟨S, r⟩ = some (⟨.int k, .dat⟩, r) := by
  intro S r hS
  have hm : fMul (.int m) (.int (m - 1)) = some ⟨.int (m * (m - 1)), .dat⟩ := by
    have e : fMul (.int m) (.int (m - 1)) = (if decide (-(2 ^ 64) < m - 1 ∧ m - 1 < 2 ^ 64) = true then some (evI (m * (m - 1))) else none).or (fRepT (.int m) (.int (m - 1))) := rfl
    rw [e, if_pos h2]; rfl
  exact e_bin (f := fDiv) (e_bin (f := fMul) (e_var hS) (e_bin (f := fSub) (e_var hS) e_cst (fSub_int m 1)) hm) e_cst h
theorem len1 {l : List Int} (h : l.length = 1) : ∃ a, l = [a] := by
  match l, h with
  | [a], _ => exact ⟨a, rfl⟩
theorem len2 {l : List Int} (h : l.length = 2) : ∃ a b, l = [a, b] := by
  match l, h with
  | [a, b], _ => exact ⟨a, b, rfl⟩
theorem len3 {l : List Int} (h : l.length = 3) : ∃ a b c, l = [a, b, c] := by
  match l, h with
  | [a, b, c], _ => exact ⟨a, b, c, rfl⟩
theorem fit1 : FitOk g1 0 where
  many := many2 1 0 (by kernel_rfl) (by decide +kernel)
  k3 := by omega
  b1 := by decide
  fit := fun ls p0 p1 l0 l1 l2 b0 b1 b2 => by
    cases List.length_eq_zero_iff.mp l0
    cases List.length_eq_zero_iff.mp l2
    obtain ⟨a, rfl⟩ := len1 l1
    exact ⟨u1 a, [], nu1 (b1 a (by simp)), rfl, rfl, fun K a6 a7 r => by kernel_rfl, fun K a6 a8 r => by kernel_rfl⟩
theorem fit2 : FitOk g2 1 where
  many := many2 2 1 (by kernel_rfl) (by decide +kernel)
  k3 := by omega
  b1 := by decide
  fit := fun ls p0 p1 l0 l1 l2 b0 b1 b2 => by
    obtain ⟨l, rfl⟩ := len1 l0
    obtain ⟨a, b, rfl⟩ := len2 l1
    obtain ⟨c, rfl⟩ := len1 l2
    have hl := b0 l (by simp)
    exact ⟨u2 l a b c, [.tup [.int 0, .int 1]], nu2 ⟨by omega, by omega⟩ (b1 a (by simp)) (b1 b (by simp)) (b2 c (by simp)), rfl, rfl, fun K a6 a7 r => by kernel_rfl, fun K a6 a8 r => by kernel_rfl⟩
theorem fit3 : FitOk g3 3 where
  many := many2 3 3 (by kernel_rfl) (by decide +kernel)
  k3 := by omega
  b1 := by decide
  fit := fun ls p0 p1 l0 l1 l2 b0 b1 b2 => by
    obtain ⟨x, y, z, rfl⟩ := len3 l0
    obtain ⟨a, b, c, rfl⟩ := len3 l1
    obtain ⟨d, e, f, rfl⟩ := len3 l2
    have hx := b0 x (by simp)
    have hy := b0 y (by simp)
    have hz := b0 z (by simp)
    exact ⟨u3 x y z a b c d e f, [.tup [.int 0, .int 1], .tup [.int 0, .int 2], .tup [.int 1, .int 2]], nu3 ⟨by omega, by omega⟩ ⟨by omega, by omega⟩ ⟨by omega, by omega⟩ (b1 a (by simp)) (b1 b (by simp)) (b1 c (by simp)) (b2 d (by simp)) (b2 e (by simp)) (b2 f (by simp)), rfl, rfl, fun K a6 a7 r => by kernel_rfl, fun K a6 a8 r => by kernel_rfl⟩
end GD
/-! Kzz -/
set_option maxHeartbeats 4000000
/-! Kzz: the plain law. -/
namespace GD
open PySem L2
theorem plain : PlainLaw := by
  intro ns _
  obtain ⟨n, K, r, h1, hn, k1, k2, hr⟩ := hd1 ns
  rw [law_eq]
  have e : slLaw = slL0 := rfl
  rw [e]
  rcases hn with rfl | rfl | rfl
  · obtain ⟨r2, h⟩ := law_mid ok1 fit1 ns k1 k2 hr
    exact ⟨r2, (mSeq_nx h1).trans h⟩
  · obtain ⟨r2, h⟩ := law_mid ok2 fit2 ns k1 k2 hr
    exact ⟨r2, (mSeq_nx h1).trans h⟩
  · obtain ⟨r2, h⟩ := law_mid ok3 fit3 ns k1 k2 hr
    exact ⟨r2, (mSeq_nx h1).trans h⟩
end GD
/-! Jh -/
set_option maxHeartbeats 0
/-! Jh: the head's run, the end. -/
namespace GD
open PySem PySem.Spec PyProof.Rows L2
theorem run (w : World) : HandSHeadRun.RunEq R qv hk ob 6000 loose w := by
  intro os
  kernel_rfl
end GD
open PySem PySem.W PySem.Calls PyProof.Rows
theorem GD.fin (PL : GD.PlainLaw) : PySem.Challenge.rw_groupdeeds_k16_whole_nets.Holds := by
  w_on; o_law
  refine HandSHeadRun.head_any (r := OpenLaw.row PySem.Challenge.rw_groupdeeds_k16_whole_nets) (q := view (OpenLaw.row PySem.Challenge.rw_groupdeeds_k16_whole_nets).prog [63]) (H := GD.hk) (ob := GD.ob) (M := 6000) (loose := GD.loose) (d := HandSHeadRun.topDef (OpenLaw.row PySem.Challenge.rw_groupdeeds_k16_whole_nets).prog 63) (kwd := []) GD.ob_eq
    (by kernel_rfl) (fun s => by kernel_rfl) GD.run (by kernel_rfl) (by kernel_rfl) (by kernel_rfl) (by rfl) (by first | assumption | decide +kernel) (by decide +kernel) ⟨rfl, rfl, rfl, rfl, rfl, by decide +kernel⟩ ?hw ?hc
  case hw => w_witness2
  case hc =>
    refine LamX.walk_ofTsE (l := PySem.Challenge.rw_groupdeeds_k16_whole_nets) (n := 63) (k := 11) (x := "_law_script") (CX := fun _ => L2.CX0) rfl (by decide) (by kernel_rfl) ⟨rfl, by decide, by decide⟩ ?F (fun _ _ _ _ _ z => z)
    intro w mg fa h Y Gm hmg0
    obtain ⟨K, KX, c⟩ := Y
    have hmg : mg ("law" : PySem.Str) = some (.ref fa) := by
      have e : (HandSHeadRun.topDef (OpenLaw.row PySem.Challenge.rw_groupdeeds_k16_whole_nets).prog 63).name = ("law" : PySem.Str) := by kernel_rfl
      rw [← e]
      exact hmg0
    have cd := He.SaysT.d c.t
    obtain ⟨fd, F⟩ := cd.def_ 45 (d := ⟨("law", none), "law", "law", L2.defArgs (GD.top 63), L2.defBody (GD.top 63), L2.defScope (GD.top 63), [], []⟩) rfl
    have e := hmg.symm.trans (He.glo_ok KX Gm (cd.fact 45 (f := .glo "law") rfl))
    cases e
    have b := L2.FunD.bindsA (ps := ["_law_script"]) F fun _ _ _ _ _ _ us hl => match us, hl with | [_], _ => rfl
    refine ⟨K, KX, fd, GD.tf.map (He.cT K), GD.spLaw K (GD.tf.map fun p => (He.cT K p).2), ?_, ?_, ?_, fun s v => b s [v] rfl, ?_, ?_⟩
    · intro p hp
      obtain ⟨q, hq, rfl⟩ := List.mem_map.mp hp
      exact c.empty q hq
    · intro p hp
      obtain ⟨q, hq, rfl⟩ := List.mem_map.mp hp
      exact c.out q hq
    · intro p hp
      obtain ⟨q, hq, rfl⟩ := List.mem_map.mp hp
      exact codeHd_of_K KX (c.hd q hq)
    · intro H a ns hl _ hT hS
      refine ⟨a, ns, rfl, hS, fun P hP => ?_, hl, fun _ => rfl⟩
      obtain ⟨q, hq, rfl⟩ := List.mem_map.mp hP
      exact hT _ (List.mem_map.mpr ⟨q, hq, rfl⟩)
    · intro base KB Gb tb
      refine GD.law_ok PL (GD.hd_of KB Gb cd fun p hp => ?_) F
      obtain ⟨t1, t2, t3⟩ := tb _ (List.mem_map.mpr ⟨p, hp, rfl⟩)
      exact ⟨t1, t2, t3⟩
theorem PySem.Challenge.cw_groupdeeds_k16_whole_nets_holds : PySem.Challenge.rw_groupdeeds_k16_whole_nets.Holds := by
  exact GD.fin GD.plain
