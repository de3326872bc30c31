import PyProof.Rows.All
import Wide.All
import OpenK.AllK
import Wide.FinOn
import HandS.Lambda
import KE.KNest
import HandS.ForSpec
import HandS.ForMost
import HandS.Style
import HandS.Zip
import HandS.Wide
import HandS.IsInst
import HandS.TupAny
import HandS.TupSets
import HandS.DictComp
import HandS.Conv
import HandS.Evl
import HandS.TupLe
import HandS.Deep
import PyProof.StrBlock2
import HandS.TupMul
import KE.SortData
import KE.KDictSum
import KE.KDictPairs
import HandS.Small
import HandS.ExcIs
import HandS.ExcField
import HandS.ExcInit
import KE.KExcIs
import HandS.SetFor
import KE.DataMinMax
import HandS.EndTab
import HandS.Words
import PySem.Challenge.RW_fanrounds_k87_whole_rays_between_and_see
set_option Elab.async false
set_option linter.all false
set_option maxRecDepth 100000
set_option maxHeartbeats 4000000
namespace Vy
/-- the defs in which a law may make a lambda -/
def lamNames : List PySem.Str := ["_law_are_refused", "_law_is_text_right", "_law_is_row_right", "law", "_law_all_told", "_law_is_right", "_law_is_chain_right"]
/-- the tables of code objects that the law's lambdas use -/
def LawTabs (K : PySem.W.Frag) : List (PySem.Addr × PySem.Str) := lamNames.filterMap fun x => (PySem.W.tabIn K x).map fun cp => (cp.2, (x ++ ".<locals>.") ++ "<lambda>")
end Vy
/-! By-value layer over the hand layer: data, states, programs as functions on data. -/
namespace Vy
open PySem PySem.Spec PyProof.Rows L2
open Evl (Ex)

/-- data by value -/
inductive D where
  | non
  | bl (b : Bool)
  | int (i : Int)
  | str (x : Str)
  | tup (xs : List D)
  | lst (xs : List D)
  | scr (ns : List Int)
  | obj (c : Str) (ns : List Str) (xs : List D)
  | fn (x : Str)
  | dct (ks : List Key) (xs : List D)
  | adr (a : Addr)
  | exc (a dd : Addr) (n : Str) (x : D)
  | clo (f c : Addr) (q : Str) (σ : L2.St) (is : List Nat) (xs : List D)

mutual
inductive Rep (K : PySem.W.Frag) (mg : Str → Option Value) (H : Hp) : V → D → Prop
  | non : Rep K mg H .non .non
  | bl (b : Bool) : Rep K mg H (.bl b) (.bl b)
  | int (i : Int) : Rep K mg H (.int i) (.int i)
  | str (x : Str) : Rep K mg H (.str x) (.str x)
  | tup {a : Addr} {xs : List V} {ds : List D} : SqT K H a xs → RepL K mg H xs ds → Rep K mg H (.ref a) (.tup ds)
  | lst {a : Addr} {xs : List V} {ds : List D} : H a = some (.lst xs) → RepL K mg H xs ds → Rep K mg H (.ref a) (.lst ds)
  | scr {a : Addr} {ns : List Int} : SqL K H a (ns.map V.int) → Rep K mg H (.ref a) (.scr ns)
  | obj {a C dx : Addr} {c : Str} {ns : List Str} {vs : List (Str × V)} {ds : List D} : mg c = some (.ref C) → H a = some (.ins C dx vs) → vs.map (·.1) = ns → RepL K mg H (vs.map (·.2)) ds → Rep K mg H (.ref a) (.obj c ns ds)
  | fn {f : Addr} {x : Str} : mg x = some (.ref f) → Rep K mg H (.ref f) (.fn x)
  | dct {a : Addr} {kvs : List (Key × V)} {ks : List Key} {ds : List D} : H a = some (.dK kvs) → kvs.map (·.1) = ks → RepL K mg H (kvs.map (·.2)) ds → Rep K mg H (.ref a) (.dct ks ds)
  | adr {a : Addr} : Rep K mg H (.ref a) (.adr a)
  | exc {a dd : Addr} {n : Str} {v : V} {x : D} : H dd = some (.xd [(n, v)]) → Rep K mg H v x → Rep K mg H (.ref a) (.exc a dd n x)
  | clo {f c : Addr} {q : Str} {σ : L2.St} {is : List Nat} {vs : List V} {ds : List D} : H c = some (LamX.CodeO c q) → is.map (fun i => σ[i]?) = vs.map (fun v => some (some v)) → RepL K mg H vs ds → Rep K mg H (.ref f) (.clo f c q σ is ds)
inductive RepL (K : PySem.W.Frag) (mg : Str → Option Value) (H : Hp) : List V → List D → Prop
  | nil : RepL K mg H [] []
  | cons {v : V} {d : D} {vs : List V} {ds : List D} : Rep K mg H v d → RepL K mg H vs ds → RepL K mg H (v :: vs) (d :: ds)
end

section
variable {K : PySem.W.Frag} {mg : Str → Option Value} {H H' : Hp}
theorem sqT_up (e : Ex H H') {a : Addr} {xs : List V} (h : SqT K H a xs) : SqT K H' a xs := Evl.ex_t e h
theorem sqL_up (e : Ex H H') {a : Addr} {xs : List V} (h : SqL K H a xs) : SqL K H' a xs := Evl.ex_l e h
mutual
theorem Rep.up (e : Ex H H') : ∀ {d : D} {v : V}, Rep K mg H v d → Rep K mg H' v d
  | .non, _, .non => .non
  | .bl _, _, .bl b => .bl b
  | .int _, _, .int i => .int i
  | .str _, _, .str x => .str x
  | .tup ds, _, .tup h r => .tup (sqT_up e h) (RepL.up e r)
  | .lst ds, _, .lst h r => .lst (e _ _ h) (RepL.up e r)
  | .scr _, _, .scr h => .scr (sqL_up e h)
  | .obj _ _ _, _, .obj g h n r => .obj g (e _ _ h) n (RepL.up e r)
  | .fn _, _, .fn g => .fn g
  | .dct _ ds, _, .dct h n r => .dct (e _ _ h) n (RepL.up e r)
  | .adr _, _, .adr => .adr
  | .exc _ _ _ x, _, .exc h r => .exc (e _ _ h) (Rep.up e r)
  | .clo _ _ _ _ _ ds, _, .clo h n r => .clo (e _ _ h) n (RepL.up e r)
theorem RepL.up (e : Ex H H') : ∀ {ds : List D} {vs : List V}, RepL K mg H vs ds → RepL K mg H' vs ds
  | [], _, .nil => .nil
  | d :: ds, _, .cons h r => .cons (Rep.up e h) (RepL.up e r)
end
theorem RepL.len : ∀ {ds : List D} {vs : List V}, RepL K mg H vs ds → vs.length = ds.length
  | [], _, .nil => rfl
  | d :: ds, _, .cons h r => by simp [RepL.len r]
theorem RepL.get : ∀ {ds : List D} {vs : List V} {i : Nat} {d : D}, RepL K mg H vs ds → ds[i]? = some d → ∃ v, vs[i]? = some v ∧ Rep K mg H v d
  | [], _, i, d, .nil, h => by simp at h
  | x :: ds, _, 0, d, .cons h r, e => by simp at e; subst e; exact ⟨_, rfl, h⟩
  | x :: ds, _, i + 1, d, .cons h r, e => by
    obtain ⟨v, a, b⟩ := RepL.get (i := i) r (by simpa using e)
    exact ⟨v, by simpa using a, b⟩
theorem RepL.getV : ∀ {ds : List D} {vs : List V} {i : Nat} {v : V}, RepL K mg H vs ds → vs[i]? = some v → ∃ d, ds[i]? = some d ∧ Rep K mg H v d
  | [], _, i, d, .nil, h => by simp at h
  | x :: ds, _, 0, d, .cons h r, e => by simp at e; subst e; exact ⟨_, rfl, h⟩
  | x :: ds, _, i + 1, d, .cons h r, e => by
    obtain ⟨v, a, b⟩ := RepL.getV (i := i) r (by simpa using e)
    exact ⟨v, by simpa using a, b⟩
theorem RepL.app : ∀ {ds es : List D} {vs ws : List V}, RepL K mg H vs ds → RepL K mg H ws es → RepL K mg H (vs ++ ws) (ds ++ es)
  | [], _, _, _, .nil, h => h
  | _ :: _, _, _, _, .cons h r, s => .cons h (RepL.app r s)
theorem RepL.drop : ∀ {ds : List D} {vs : List V} (n : Nat), RepL K mg H vs ds → RepL K mg H (vs.drop n) (ds.drop n)
  | _, _, 0, h => h
  | [], _, _ + 1, .nil => .nil
  | _ :: _, _, n + 1, .cons _ r => RepL.drop n r
theorem RepL.take : ∀ {ds : List D} {vs : List V} (n : Nat), RepL K mg H vs ds → RepL K mg H (vs.take n) (ds.take n)
  | _, _, 0, _ => .nil
  | [], _, _ + 1, .nil => .nil
  | _ :: _, _, n + 1, .cons h r => .cons h (RepL.take n r)
theorem RepL.set {v : V} {d : D} (h : Rep K mg H v d) : ∀ {ds : List D} {vs : List V} (n : Nat), RepL K mg H vs ds → RepL K mg H (vs.set n v) (ds.set n d)
  | [], _, _, .nil => .nil
  | _ :: _, _, 0, .cons _ r => .cons h r
  | _ :: _, _, n + 1, .cons g r => .cons g (RepL.set h n r)
theorem RepL.rev : ∀ {ds : List D} {vs : List V}, RepL K mg H vs ds → RepL K mg H vs.reverse ds.reverse
  | [], _, .nil => .nil
  | _ :: _, _, .cons h r => by
    rw [List.reverse_cons, List.reverse_cons]
    exact RepL.app (RepL.rev r) (.cons h .nil)
theorem RepL.eraseIdx : ∀ {ds : List D} {vs : List V} (n : Nat), RepL K mg H vs ds → RepL K mg H (vs.eraseIdx n) (ds.eraseIdx n)
  | [], _, _, .nil => .nil
  | _ :: _, _, 0, .cons _ r => r
  | _ :: _, _, n + 1, .cons g r => .cons g (RepL.eraseIdx n r)
end

/-! ### slots, pending values, states -/
inductive Slot where
  | no
  | va (d : D)
  | ow (d : D)
  | io (d : D)
inductive R where
  | cl (d : D)
  | fr (d : D)
abbrev R.d : R → D
  | .cl d => d
  | .fr d => d
abbrev State := List Slot
inductive Own where
  | s (i : Nat)
  | t (j : Nat)
  deriving DecidableEq
/-- what stood at the entry: the known part, the heap, what may be changed -/
structure Bs where
  Hk0 : Hp
  H0 : Hp
  io : Addr → Prop

/-- a thing that never changes -/
def Fz (o : Option HO) : Prop := (∃ φ, o = some (.ext φ)) ∨ ∃ fs, o = some (.xd fs)
section
variable (K : PySem.W.Frag) (mg : Str → Option Value)
def Cont (Hk H : Hp) (p : Addr) : D → Prop
  | .lst ds => ∃ xs, H p = some (.lst xs) ∧ RepL K mg Hk xs ds
  | .obj c ns ds => ∃ (C dx : Addr) (vs : List (Str × V)), mg c = some (.ref C) ∧ H p = some (.ins C dx vs) ∧ vs.map (·.1) = ns ∧ RepL K mg Hk (vs.map (·.2)) ds
  | .dct ks ds => ∃ kvs : List (Key × V), H p = some (.dK kvs) ∧ kvs.map (·.1) = ks ∧ RepL K mg Hk (kvs.map (·.2)) ds
  | _ => False
/-- what the frame keeps alive, and the tables of code objects -/
structure LiveT (B : Bs) (H : Hp) : Prop where
  lv : ∀ a, B.H0 a ≠ none → H a ≠ none
  tb : LamX.Tabs (LawTabs K) H
  t0 : ∀ p ∈ LawTabs K, B.H0 p.1 ≠ none ∧ B.Hk0 p.1 = none ∧ B.io p.1
  ta : ∀ a ps, H a = some (.tbl ps) → ∃ x ∈ LawTabs K, x.1 = a
def SlotOk (B : Bs) (Hk H : Hp) (w : Addr → Option Own) (i : Nat) (x : Option V) : Slot → Prop
  | .no => True
  | .va d => ∃ v, x = some v ∧ Rep K mg Hk v d
  | .ow d => ∃ p, x = some (.ref p) ∧ w p = some (.s i) ∧ Hk p = none ∧ B.H0 p = none ∧ Cont K mg Hk H p d
  | .io d => ∃ p, x = some (.ref p) ∧ w p = some (.s i) ∧ Hk p = none ∧ B.io p ∧ Cont K mg Hk H p d
def TempOk (B : Bs) (Hk H : Hp) (w : Addr → Option Own) (n : Nat) (v : V) : R → Prop
  | .cl d => Rep K mg Hk v d
  | .fr d => ∃ p, v = .ref p ∧ w p = some (.t n) ∧ Hk p = none ∧ B.H0 p = none ∧ Cont K mg Hk H p d
def TempsOk (B : Bs) (Hk H : Hp) (w : Addr → Option Own) : List (V × R) → Prop
  | [] => True
  | (v, r) :: rest => TempOk K mg B Hk H w rest.length v r ∧ TempsOk B Hk H w rest
structure StI (B : Bs) (Hk : Hp) (w : Addr → Option Own) (ρ : State) (τ : List (V × R)) (σ : L2.St) (H : Hp) : Prop where
  len : ρ.length = σ.length
  e0 : Ex B.Hk0 Hk
  e1 : Ex Hk H
  fr : ∀ a o, B.H0 a = some o → ¬ B.io a → H a = some o
  nk : ∀ a, B.H0 a ≠ none → B.Hk0 a = none → Hk a = none ∨ Fz (H a)
  live : LiveT K B H
  slots : ∀ i x sl, σ[i]? = some x → ρ[i]? = some sl → SlotOk K mg B Hk H w i x sl
  temps : TempsOk K mg B Hk H w τ
def St (B : Bs) (ρ : State) (τ : List (V × R)) (σ : L2.St) (H : Hp) : Prop := ∃ Hk w, StI K mg B Hk w ρ τ σ H
/-- a value that may be read now -/
def View (Hk H : Hp) (v : V) (d : D) : Prop := Rep K mg Hk v d ∨ ∃ p, v = .ref p ∧ Cont K mg Hk H p d
def StV (B : Bs) (ρ : State) (τ : List (V × R)) (v : V) (d : D) (σ : L2.St) (H : Hp) : Prop := ∃ Hk w, StI K mg B Hk w ρ τ σ H ∧ View K mg Hk H v d
end

section
variable {K : PySem.W.Frag} {mg : Str → Option Value} {B : Bs} {Hk Hk' H H' : Hp} {w w' : Addr → Option Own} {ρ : State} {τ : List (V × R)} {σ : L2.St} {p : Addr} {o : HO} {v : V} {d : D} {r : R}
theorem Cont.some (h : Cont K mg Hk H p d) : ∃ o, H p = Option.some o := by
  cases d <;> simp only [Cont] at h <;> first | exact h.elim | skip
  · obtain ⟨xs, h, _⟩ := h; exact ⟨_, h⟩
  · obtain ⟨C, dx, vs, _, h, _⟩ := h; exact ⟨_, h⟩
  · obtain ⟨kvs, h, _⟩ := h; exact ⟨_, h⟩
/-- there, and no table -/
structure NT (H : Hp) (p : Addr) : Prop where
  there : H p ≠ none
  tbl : ∀ ps, H p ≠ Option.some (.tbl ps)
  fz : ¬ Fz (H p)
theorem Cont.nt (h : Cont K mg Hk H p d) : NT H p := by
  cases d <;> simp only [Cont] at h <;> first | exact h.elim | skip
  · obtain ⟨xs, h, _⟩ := h; exact ⟨by rw [h]; simp, fun ps => by rw [h]; simp, by rw [h]; simp [Fz]⟩
  · obtain ⟨C, dx, vs, _, h, _⟩ := h; exact ⟨by rw [h]; simp, fun ps => by rw [h]; simp, by rw [h]; simp [Fz]⟩
  · obtain ⟨kvs, h, _⟩ := h; exact ⟨by rw [h]; simp, fun ps => by rw [h]; simp, by rw [h]; simp [Fz]⟩
theorem nk_upd {B : Bs} {Hk H : Hp} {p : Addr} {o : HO} (hf : ¬ Fz (H p)) (h : ∀ a, B.H0 a ≠ none → B.Hk0 a = none → Hk a = none ∨ Fz (H a)) : ∀ a, B.H0 a ≠ none → B.Hk0 a = none → Hk a = none ∨ Fz (upd H p o a) := fun a n0 k0 => by
  rcases h a n0 k0 with z | z
  · exact .inl z
  · exact .inr (by rw [upd_ne (by rintro rfl; exact hf z)]; exact z)
theorem fz_none (h : H p = none) : ¬ Fz (H p) := by rw [h]; simp [Fz]
theorem LiveT.tab (h : LiveT K B H) {x : Addr × Str} (hx : x ∈ LawTabs K) : ∃ ps, H x.1 = Option.some (.tbl ps) := by
  obtain ⟨ps, e, _⟩ := h.tb x hx
  exact ⟨ps, e⟩
/-- an owned thing is no table -/
theorem LiveT.not_tab (h : LiveT K B H) (n : NT H p) {x : Addr × Str} (hx : x ∈ LawTabs K) : x.1 ≠ p := by
  rintro rfl
  obtain ⟨ps, e⟩ := h.tab hx
  exact n.tbl ps e
/-- the tables stay where only what is none of them changes -/
theorem tabs_upd {T : List (Addr × Str)} {o' : HO} (h : LamX.Tabs T H) (hp : H p = none ∨ ∃ u, H p = Option.some u ∧ (∀ ps, u ≠ .tbl ps) ∧ ∀ φ, u ≠ .ext φ) : LamX.Tabs T (upd H p o') := by
  intro x hx
  obtain ⟨ps, e, t, a⟩ := h x hx
  have ne : ∀ q u, H q = Option.some u → ((∃ ps, u = .tbl ps) ∨ ∃ φ, u = .ext φ) → q ≠ p := by
    rintro q u hq hu rfl
    rcases hp with z | ⟨u', z, z1, z2⟩
    · rw [hq] at z; cases z
    · rw [hq] at z; cases z
      rcases hu with ⟨ps, rfl⟩ | ⟨φ, rfl⟩
      · exact z1 _ rfl
      · exact z2 _ rfl
  refine ⟨ps, by rw [upd_ne (ne _ _ e (.inl ⟨ps, rfl⟩))]; exact e, t, fun pos cv hc => ?_⟩
  obtain ⟨c, rfl, hc'⟩ := a pos cv hc
  exact ⟨c, rfl, by rw [upd_ne (ne _ _ hc' (.inr ⟨_, rfl⟩))]; exact hc'⟩
theorem Cont.plain (h : Cont K mg Hk H p d) : ∃ u, H p = Option.some u ∧ (∀ ps, u ≠ .tbl ps) ∧ ∀ φ, u ≠ .ext φ := by
  cases d <;> simp only [Cont] at h <;> first | exact h.elim | skip
  · obtain ⟨xs, h, _⟩ := h; exact ⟨_, h, fun _ => by simp, fun _ => by simp⟩
  · obtain ⟨C, dx, vs, _, h, _⟩ := h; exact ⟨_, h, fun _ => by simp, fun _ => by simp⟩
  · obtain ⟨kvs, h, _⟩ := h; exact ⟨_, h, fun _ => by simp, fun _ => by simp⟩
theorem Cont.notbl {o : HO} (h : Cont K mg Hk (upd H p o) p d) : ∀ ps, o ≠ .tbl ps := by
  obtain ⟨u, hu, h1, _⟩ := h.plain
  rw [upd_same] at hu
  cases hu
  exact h1
theorem ta_upd {o : HO} (ho : ∀ ps, o ≠ .tbl ps) (h : ∀ a ps, H a = Option.some (.tbl ps) → ∃ x ∈ LawTabs K, x.1 = a) : ∀ a ps, upd H p o a = Option.some (.tbl ps) → ∃ x ∈ LawTabs K, x.1 = a := fun a ps e => by
  by_cases ha : a = p
  · subst ha; rw [upd_same] at e; cases e; exact absurd rfl (ho _)
  · rw [upd_ne ha] at e; exact h a ps e
theorem LiveT.new {o' : HO} (h : LiveT K B H) (hp : H p = none) (ho : ∀ ps, o' ≠ .tbl ps) : LiveT K B (upd H p o') := by
  refine ⟨fun a n0 => ?_, tabs_upd h.tb (.inl hp), h.t0, ta_upd ho h.ta⟩
  rw [upd_ne (by rintro rfl; exact h.lv _ n0 hp)]
  exact h.lv a n0
theorem LiveT.own {o' : HO} {d' : D} (h : LiveT K B H) (hc : Cont K mg Hk H p d) (hc' : Cont K mg Hk (upd H p o') p d') : LiveT K B (upd H p o') := by
  refine ⟨fun a n0 => ?_, tabs_upd h.tb (.inr hc.plain), h.t0, ta_upd hc'.notbl h.ta⟩
  by_cases ha : a = p
  · subst ha; rw [upd_same]; simp
  · rw [upd_ne ha]; exact h.lv a n0
theorem Cont.up (ek : Ex Hk Hk') (hp : ∀ o, H p = Option.some o → H' p = Option.some o) (h : Cont K mg Hk H p d) : Cont K mg Hk' H' p d := by
  cases d <;> simp only [Cont] at h ⊢
  · obtain ⟨xs, h, r⟩ := h; exact ⟨xs, hp _ h, r.up ek⟩
  · obtain ⟨C, dx, vs, g, h, n, r⟩ := h; exact ⟨C, dx, vs, g, hp _ h, n, r.up ek⟩
  · obtain ⟨kvs, h, n, r⟩ := h; exact ⟨kvs, hp _ h, n, r.up ek⟩
theorem View.up (ek : Ex Hk Hk') (e : Ex H H') (h : View K mg Hk H v d) : View K mg Hk' H' v d := by
  rcases h with h | ⟨p, rfl, h⟩
  · exact .inl (h.up ek)
  · exact .inr ⟨p, rfl, h.up ek fun o q => e _ _ q⟩
/-- the slots keep, where what they own keeps its content and owner -/
theorem SlotOk.up {i : Nat} {x : Option V} {sl : Slot} (ek : Ex Hk Hk') (hp : ∀ p, w p = some (.s i) → NT H p → Hk p = none → w' p = some (.s i) ∧ Hk' p = none ∧ ∀ o, H p = Option.some o → H' p = Option.some o) (h : SlotOk K mg B Hk H w i x sl) : SlotOk K mg B Hk' H' w' i x sl := by
  cases sl with
  | no => trivial
  | va d => obtain ⟨v, e, h⟩ := h; exact ⟨v, e, h.up ek⟩
  | ow d =>
    obtain ⟨p, e, a, b, c, h⟩ := h
    obtain ⟨o, ho⟩ := h.some
    obtain ⟨q1, q2, q3⟩ := hp p a h.nt b
    exact ⟨p, e, q1, q2, c, h.up ek q3⟩
  | io d =>
    obtain ⟨p, e, a, b, c, h⟩ := h
    obtain ⟨o, ho⟩ := h.some
    obtain ⟨q1, q2, q3⟩ := hp p a h.nt b
    exact ⟨p, e, q1, q2, c, h.up ek q3⟩
theorem TempOk.up {n : Nat} (ek : Ex Hk Hk') (hp : ∀ p, w p = some (.t n) → NT H p → Hk p = none → w' p = some (.t n) ∧ Hk' p = none ∧ ∀ o, H p = Option.some o → H' p = Option.some o) (h : TempOk K mg B Hk H w n v r) : TempOk K mg B Hk' H' w' n v r := by
  cases r with
  | cl d => exact Rep.up ek h
  | fr d =>
    obtain ⟨p, e, a, b, c, h⟩ := h
    obtain ⟨o, ho⟩ := h.some
    obtain ⟨q1, q2, q3⟩ := hp p a h.nt b
    exact ⟨p, e, q1, q2, c, h.up ek q3⟩
theorem TempsOk.up (ek : Ex Hk Hk') : ∀ {τ : List (V × R)}, (∀ n p, n < τ.length → w p = some (.t n) → NT H p → Hk p = none → w' p = some (.t n) ∧ Hk' p = none ∧ ∀ o, H p = Option.some o → H' p = Option.some o) → TempsOk K mg B Hk H w τ → TempsOk K mg B Hk' H' w' τ
  | [], _, _ => trivial
  | (v, r) :: τ, hp, ⟨h, t⟩ => ⟨h.up ek fun p => hp τ.length p (Nat.lt_succ_self _), TempsOk.up ek (fun n p hn => hp n p (Nat.lt_succ_of_lt hn)) t⟩
theorem ex_new (h : H p = none) : Ex H (upd H p o) := Ex.new h
/-- a new immutable object -/
theorem StI.laidK (h : StI K mg B Hk w ρ τ σ H) (hp : H p = none) (ho : ∀ ps, o ≠ .tbl ps := by exact fun _ z => nomatch z) : StI K mg B (upd Hk p o) w ρ τ σ (upd H p o) := by
  have hk : Hk p = none := Evl.fresh_back h.e1 hp
  have ek : Ex Hk (upd Hk p o) := Ex.new hk
  have h0 : B.H0 p = none := by
    cases q : B.H0 p with
    | none => rfl
    | some u => exact absurd hp (h.live.lv p (by rw [q]; simp))
  have keep : ∀ q, H q ≠ none → Hk q = none → upd Hk p o q = none ∧ ∀ u, H q = some u → upd H p o q = some u := fun q hq hkq => by
    have ne : q ≠ p := fun e => hq (e ▸ hp)
    exact ⟨by rw [upd_ne ne]; exact hkq, fun u hu => by rw [upd_ne ne]; exact hu⟩
  refine ⟨h.len, h.e0.trans ek, fun a u e => ?_, fun a u e n => ?_, fun a n0 nk => ?_, h.live.new hp ho, fun i x sl e1 e2 => ?_, ?_⟩
  · by_cases ha : a = p
    · subst ha; rw [upd_same] at e ⊢; exact e
    · rw [upd_ne ha] at e ⊢; exact h.e1 a u e
  · rw [upd_ne (by rintro rfl; rw [h0] at e; cases e)]; exact h.fr a u e n
  · rw [upd_ne (by rintro rfl; exact n0 h0)]; exact nk_upd (fz_none hp) h.nk a n0 nk
  · exact (h.slots i x sl e1 e2).up ek fun q a b c => ⟨a, keep q b.there c⟩
  · exact h.temps.up ek fun n q _ a b c => ⟨a, keep q b.there c⟩
/-- a new object of our own, pending -/
theorem StI.laidO (h : StI K mg B Hk w ρ τ σ H) (hp : H p = none) (hc : Cont K mg Hk (upd H p o) p d) : StI K mg B Hk (fun q => if q = p then some (.t τ.length) else w q) ρ ((.ref p, .fr d) :: τ) σ (upd H p o) := by
  have hk : Hk p = none := Evl.fresh_back h.e1 hp
  have h0 : B.H0 p = none := by
    cases q : B.H0 p with
    | none => rfl
    | some u => exact absurd hp (h.live.lv p (by rw [q]; simp))
  have keep : ∀ q y, w q = some y → H q ≠ none → Hk q = none → (if q = p then some (Own.t τ.length) else w q) = some y ∧ Hk q = none ∧ ∀ u, H q = some u → upd H p o q = some u := fun q y hw hq hkq => by
    have ne : q ≠ p := fun e => hq (e ▸ hp)
    exact ⟨by rw [if_neg ne]; exact hw, hkq, fun u hu => by rw [upd_ne ne]; exact hu⟩
  refine ⟨h.len, h.e0, fun a u e => ?_, fun a u e n => ?_, nk_upd (fz_none hp) h.nk, h.live.new hp hc.notbl, fun i x sl e1 e2 => ?_, ⟨⟨p, rfl, if_pos rfl, hk, h0, hc⟩, ?_⟩⟩
  · rw [upd_ne (by rintro rfl; rw [hk] at e; cases e)]; exact h.e1 a u e
  · rw [upd_ne (by rintro rfl; rw [h0] at e; cases e)]; exact h.fr a u e n
  · exact (h.slots i x sl e1 e2).up (fun _ _ z => z) fun q a b c => keep q _ a b.there c
  · exact h.temps.up (fun _ _ z => z) fun n q _ a b c => keep q _ a b.there c
/-- pending values are frozen -/
theorem StI.freeze (h : StI K mg B Hk w ρ ((v, .fr d) :: τ) σ H) : ∃ Hk', Ex Hk Hk' ∧ StI K mg B Hk' w ρ ((v, .cl d) :: τ) σ H := by
  obtain ⟨⟨p, rfl, hw, hk, h0, hc⟩, ht⟩ := h.temps
  obtain ⟨o, ho⟩ := hc.some
  have ek : Ex Hk (upd Hk p o) := Ex.new hk
  have keep : ∀ q y, y ≠ Own.t τ.length → w q = some y → Hk q = none → w q = some y ∧ upd Hk p o q = none ∧ ∀ u, H q = some u → H q = some u := fun q y ny hq hkq => by
    have ne : q ≠ p := fun e => by
      subst e; rw [hw] at hq; cases hq; exact ny rfl
    exact ⟨hq, by rw [upd_ne ne]; exact hkq, fun u hu => hu⟩
  refine ⟨upd Hk p o, ek, h.len, h.e0.trans ek, fun a u e => ?_, h.fr, fun a n0 nk => ?_, h.live, fun i x sl e1 e2 => ?_, ⟨?_, ?_⟩⟩
  · by_cases ha : a = p
    · subst ha; rw [upd_same] at e; cases e; exact ho
    · rw [upd_ne ha] at e; exact h.e1 a u e
  · rw [upd_ne (by rintro rfl; exact n0 h0)]; exact h.nk a n0 nk
  · exact (h.slots i x sl e1 e2).up ek fun q a b c => keep q _ (by simp) a c
  · show Rep K mg (upd Hk p o) (.ref p) d
    cases d <;> simp only [Cont] at hc
    · obtain ⟨xs, hx, rx⟩ := hc
      rw [hx] at ho; cases ho
      exact .lst upd_same (rx.up ek)
    · obtain ⟨C, dx, vs, g, hx, n, rx⟩ := hc
      rw [hx] at ho; cases ho
      exact .obj g upd_same n (rx.up ek)
    · obtain ⟨kvs, hx, n, rx⟩ := hc
      rw [hx] at ho; cases ho
      exact .dct upd_same n (rx.up ek)
  · exact ht.up ek fun n q hn a b c => keep q _ (by simp; omega) a c
theorem StI.pop (h : StI K mg B Hk w ρ ((v, r) :: τ) σ H) : StI K mg B Hk w ρ τ σ H := ⟨h.len, h.e0, h.e1, h.fr, h.nk, h.live, h.slots, h.temps.2⟩
theorem StI.clear (h : StI K mg B Hk w ρ τ σ H) : StI K mg B Hk w ρ [] σ H := ⟨h.len, h.e0, h.e1, h.fr, h.nk, h.live, h.slots, trivial⟩
theorem StI.view (h : StI K mg B Hk w ρ ((v, r) :: τ) σ H) : View K mg Hk H v r.d := by
  cases r with
  | cl d => exact .inl h.temps.1
  | fr d => obtain ⟨p, e, _, _, _, c⟩ := h.temps.1; exact .inr ⟨p, e, c⟩
/-- any value is clean when it is frozen -/
theorem StI.clean (h : StI K mg B Hk w ρ ((v, r) :: τ) σ H) : ∃ Hk', Ex Hk Hk' ∧ StI K mg B Hk' w ρ ((v, .cl r.d) :: τ) σ H := by
  cases r with
  | cl d => exact ⟨Hk, fun _ _ z => z, h⟩
  | fr d => exact h.freeze
theorem StI.push (h : StI K mg B Hk w ρ τ σ H) (q : Rep K mg Hk v d) : StI K mg B Hk w ρ ((v, .cl d) :: τ) σ H := ⟨h.len, h.e0, h.e1, h.fr, h.nk, h.live, h.slots, q, h.temps⟩
def R.slot : R → Slot
  | .cl d => .va d
  | .fr d => .ow d
/-- the pending value goes to a slot -/
theorem StI.store {i : Nat} (h : StI K mg B Hk w ρ ((v, r) :: τ) σ H) : ∃ w', StI K mg B Hk w' (ρ.set i r.slot) τ (σ.set i (some v)) H := by
  have base : ∀ w', (∀ q y, y ≠ Own.t τ.length → w q = some y → w' q = some y) → SlotOk K mg B Hk H w' i (some v) r.slot → StI K mg B Hk w' (ρ.set i r.slot) τ (σ.set i (some v)) H := fun w' hw hs => by
    refine ⟨by simp [h.len], h.e0, h.e1, h.fr, h.nk, h.live, fun j x sl e1 e2 => ?_, ?_⟩
    · by_cases hj : i = j
      · subst hj
        by_cases hl : i < σ.length
        · rw [List.getElem?_set_self hl] at e1
          rw [List.getElem?_set_self (by rw [h.len]; exact hl)] at e2
          cases e1; cases e2; exact hs
        · rw [List.getElem?_eq_none (by simp; omega)] at e1; cases e1
      · rw [List.getElem?_set_ne hj] at e1 e2
        exact (h.slots j x sl e1 e2).up (fun _ _ z => z) fun q a b c => ⟨hw q _ (by simp) a, c, fun _ z => z⟩
    · exact h.temps.2.up (fun _ _ z => z) fun n q hn a b c => ⟨hw q _ (by simp; omega) a, c, fun _ z => z⟩
  cases r with
  | cl d => exact ⟨w, base w (fun _ _ _ z => z) ⟨v, rfl, h.temps.1⟩⟩
  | fr d =>
    obtain ⟨⟨p, rfl, hw, hk, h0, hc⟩, _⟩ := h.temps
    exact ⟨fun q => if q = p then some (.s i) else w q, base _ (fun q y ny z => by
      have ne : q ≠ p := fun e => by subst e; rw [hw] at z; cases z; exact ny rfl
      show (if q = p then some (Own.s i) else w q) = some y
      rw [if_neg ne]; exact z) ⟨p, rfl, if_pos rfl, hk, h0, hc⟩⟩
end
end Vy
namespace Vy
open PySem PySem.Spec PyProof.Rows L2
open Evl (Ex)
section
variable {K : PySem.W.Frag} {mg : Str → Option Value} {B : Bs} {Hk Hk' H H' : Hp} {w w' : Addr → Option Own} {ρ : State} {τ : List (V × R)} {σ : L2.St} {p : Addr} {o : HO} {v : V} {d d' : D} {r : R} {i : Nat}
def peekS : Option Slot → Option D
  | some (.va d) => some d
  | some (.ow d) => some d
  | some (.io d) => some d
  | _ => none
theorem slot_at (h : StI K mg B Hk w ρ τ σ H) {sl : Slot} (e : ρ[i]? = some sl) : ∃ x, σ[i]? = some x ∧ SlotOk K mg B Hk H w i x sl := by
  have hl : i < ρ.length := (List.getElem?_eq_some_iff.mp e).1
  have hs : i < σ.length := by rw [← h.len]; exact hl
  exact ⟨σ[i], List.getElem?_eq_getElem hs, h.slots i _ _ (List.getElem?_eq_getElem hs) e⟩
/-- reading a slot -/
theorem StI.peek (h : StI K mg B Hk w ρ τ σ H) (e : peekS ρ[i]? = some d) : ∃ v, σ[i]? = some (some v) ∧ View K mg Hk H v d := by
  cases q : ρ[i]? with
  | none => rw [q] at e; cases e
  | some sl =>
    obtain ⟨x, hx, hs⟩ := slot_at h q
    rw [q] at e
    cases sl <;> simp only [peekS, Option.some.injEq, reduceCtorEq] at e <;> subst e
    · obtain ⟨v, rfl, hr⟩ := hs; exact ⟨v, hx, .inl hr⟩
    · obtain ⟨p, rfl, _, _, _, hc⟩ := hs; exact ⟨_, hx, .inr ⟨p, rfl, hc⟩⟩
    · obtain ⟨p, rfl, _, _, _, hc⟩ := hs; exact ⟨_, hx, .inr ⟨p, rfl, hc⟩⟩
theorem StI.val (h : StI K mg B Hk w ρ τ σ H) (e : ρ[i]? = some (.va d)) : ∃ v, σ[i]? = some (some v) ∧ Rep K mg Hk v d := by
  obtain ⟨x, hx, hs⟩ := slot_at h e
  obtain ⟨v, rfl, hr⟩ := hs
  exact ⟨v, hx, hr⟩
/-- a slot's own thing is lent: it becomes pending -/
theorem StI.lend (h : StI K mg B Hk w ρ τ σ H) (e : ρ[i]? = some (.ow d)) : ∃ w' v, σ[i]? = some (some v) ∧ StI K mg B Hk w' (ρ.set i .no) ((v, .fr d) :: τ) σ H := by
  obtain ⟨x, hx, hs⟩ := slot_at h e
  obtain ⟨p, rfl, hw, hk, h0, hc⟩ := hs
  have keep : ∀ q y, y ≠ Own.s i → w q = some y → Hk q = none → (if q = p then some (Own.t τ.length) else w q) = some y ∧ Hk q = none ∧ ∀ u, H q = some u → H q = some u := fun q y ny hq hkq => by
    have ne : q ≠ p := fun e => by subst e; rw [hw] at hq; cases hq; exact ny rfl
    exact ⟨by rw [if_neg ne]; exact hq, hkq, fun _ z => z⟩
  refine ⟨fun q => if q = p then some (.t τ.length) else w q, _, hx, by simp [h.len], h.e0, h.e1, h.fr, h.nk, h.live, fun j x sl e1 e2 => ?_, ⟨⟨p, rfl, if_pos rfl, hk, h0, hc⟩, ?_⟩⟩
  · by_cases hj : i = j
    · subst hj
      rw [List.getElem?_set_self (List.getElem?_eq_some_iff.mp e).1] at e2
      cases e2; trivial
    · rw [List.getElem?_set_ne hj] at e2
      exact (h.slots j x sl e1 e2).up (fun _ _ z => z) fun q a b c => keep q _ (fun z => by cases z; exact hj rfl) a c
  · exact h.temps.up (fun _ _ z => z) fun n q _ a b c => keep q _ (by simp) a c
/-- and given back -/
theorem StI.back (h : StI K mg B Hk w ρ ((v, .fr d) :: τ) σ H) (e : σ[i]? = some (some v)) (hn : ρ[i]? = some .no) : ∃ w', StI K mg B Hk w' (ρ.set i (.ow d)) τ σ H := by
  obtain ⟨w', h'⟩ := h.store (i := i)
  have es : σ.set i (some v) = σ := by
    have hl : i < σ.length := (List.getElem?_eq_some_iff.mp e).1
    apply List.ext_getElem? ; intro j
    by_cases hj : i = j
    · subst hj; rw [List.getElem?_set_self hl, e]
    · rw [List.getElem?_set_ne hj]
  rw [es] at h'
  exact ⟨w', h'⟩
/-- a slot's own thing is frozen where it stands -/
theorem StI.fix (h : StI K mg B Hk w ρ τ σ H) (e : ρ[i]? = some (.ow d)) : ∃ Hk' w' v, Ex Hk Hk' ∧ σ[i]? = some (some v) ∧ Rep K mg Hk' v d ∧ StI K mg B Hk' w' (ρ.set i (.va d)) τ σ H := by
  obtain ⟨w1, v, hv, h1⟩ := h.lend e
  obtain ⟨Hk', ek, h2⟩ := h1.freeze
  have hr : Rep K mg Hk' v d := h2.temps.1
  refine ⟨Hk', w1, v, ek, hv, hr, ?_⟩
  have h3 := h2.pop
  refine ⟨by have := h3.len; simpa using this, h3.e0, h3.e1, h3.fr, h3.nk, h3.live, fun j x sl e1 e2 => ?_, h3.temps⟩
  by_cases hj : i = j
  · subst hj
    rw [List.getElem?_set_self (List.getElem?_eq_some_iff.mp e).1] at e2
    cases e2
    rw [hv] at e1; cases e1
    exact ⟨v, rfl, hr⟩
  · rw [List.getElem?_set_ne hj] at e2
    exact h3.slots j x sl e1 (by rw [List.getElem?_set_ne hj]; exact e2)
/-- how a changed thing keeps its slot's kind -/
def Slot.put (sl : Slot) (d : D) : Option Slot := match sl with
  | .ow _ => some (.ow d)
  | .io _ => some (.io d)
  | _ => none
/-- a slot's own thing is changed -/
theorem StI.mut (h : StI K mg B Hk w ρ τ σ H) {sl sl' : Slot} (e : ρ[i]? = some sl) (hp : sl.put d' = some sl') :
    ∃ p d0, σ[i]? = some (some (.ref p)) ∧ peekS (some sl) = some d0 ∧ Cont K mg Hk H p d0 ∧ ∀ o, Cont K mg Hk (upd H p o) p d' → StI K mg B Hk w (ρ.set i sl') τ σ (upd H p o) := by
  obtain ⟨x, hx, hs⟩ := slot_at h e
  have go : ∀ p d0, x = some (.ref p) → w p = some (.s i) → Hk p = none → (B.H0 p = none ∨ B.io p) → Cont K mg Hk H p d0 → (∀ o, Cont K mg Hk (upd H p o) p d' → SlotOk K mg B Hk (upd H p o) w i x sl') → ∀ o, Cont K mg Hk (upd H p o) p d' → StI K mg B Hk w (ρ.set i sl') τ σ (upd H p o) := by
    intro p d0 ex hw hk h0 hc hsl o hc'
    have keep : ∀ q y, y ≠ Own.s i → w q = some y → Hk q = none → w q = some y ∧ Hk q = none ∧ ∀ u, H q = some u → upd H p o q = some u := fun q y ny hq hkq => by
      have ne : q ≠ p := fun e => by subst e; rw [hw] at hq; cases hq; exact ny rfl
      exact ⟨hq, hkq, fun u hu => by rw [upd_ne ne]; exact hu⟩
    refine ⟨by simp [h.len], h.e0, fun a u q => ?_, fun a u q n => ?_, nk_upd hc.nt.fz h.nk, h.live.own hc hc', fun j x' sl2 e1 e2 => ?_, h.temps.up (fun _ _ z => z) fun n q _ a b c => keep q _ (by simp) a c⟩
    · rw [upd_ne (by rintro rfl; rw [hk] at q; cases q)]; exact h.e1 a u q
    · rw [upd_ne (by
        rintro rfl
        rcases h0 with h0 | h0
        · rw [h0] at q; cases q
        · exact n h0)]; exact h.fr a u q n
    · by_cases hj : i = j
      · subst hj
        rw [List.getElem?_set_self (List.getElem?_eq_some_iff.mp e).1] at e2
        cases e2
        rw [hx] at e1; cases e1
        exact hsl o hc'
      · rw [List.getElem?_set_ne hj] at e2
        exact (h.slots j x' sl2 e1 e2).up (fun _ _ z => z) fun q a b c => keep q _ (fun z => by cases z; exact hj rfl) a c
  cases sl with
  | no => cases hp
  | va _ => cases hp
  | ow d0 =>
    cases hp
    obtain ⟨p, rfl, hw, hk, h0, hc⟩ := hs
    exact ⟨p, d0, hx, rfl, hc, go p d0 rfl hw hk (.inl h0) hc fun o hc' => ⟨p, rfl, hw, hk, h0, hc'⟩⟩
  | io d0 =>
    cases hp
    obtain ⟨p, rfl, hw, hk, h0, hc⟩ := hs
    exact ⟨p, d0, hx, rfl, hc, go p d0 rfl hw hk (.inr h0) hc fun o hc' => ⟨p, rfl, hw, hk, h0, hc'⟩⟩
/-- the values pending have nothing to do with the slots' count -/
theorem StI.of_len (h : StI K mg B Hk w ρ τ σ H) : ρ.length = σ.length := h.len
/-- forgetting a slot's value, on both sides or one -/
theorem StI.forget (h : StI K mg B Hk w ρ τ σ H) (i : Nat) (x : Option V) : StI K mg B Hk w (ρ.set i .no) τ (σ.set i x) H := by
  refine ⟨by simp [h.len], h.e0, h.e1, h.fr, h.nk, h.live, fun j x sl e1 e2 => ?_, h.temps⟩
  by_cases hj : i = j
  · subst hj
    by_cases hl : i < ρ.length
    · rw [List.getElem?_set_self hl] at e2; cases e2; trivial
    · rw [List.getElem?_eq_none (by simp; omega)] at e2; cases e2
  · rw [List.getElem?_set_ne hj] at e1 e2
    exact h.slots j x sl e1 e2
theorem StI.forgetN (h : StI K mg B Hk w ρ τ σ H) (i : Nat) : StI K mg B Hk w (ρ.set i .no) τ σ H := by
  refine ⟨by simp [h.len], h.e0, h.e1, h.fr, h.nk, h.live, fun j x sl e1 e2 => ?_, h.temps⟩
  by_cases hj : i = j
  · subst hj
    by_cases hl : i < ρ.length
    · rw [List.getElem?_set_self hl] at e2; cases e2; trivial
    · rw [List.getElem?_eq_none (by simp; omega)] at e2; cases e2
  · rw [List.getElem?_set_ne hj] at e2
    exact h.slots j x sl e1 e2
/-- a block's own names are wiped -/
def wipeR (ρ : State) : List Nat → State
  | [] => ρ
  | i :: is => (wipeR ρ is).set i .no
theorem StI.wipe : ∀ {is : List Nat}, StI K mg B Hk w ρ τ σ H → StI K mg B Hk w (wipeR ρ is) τ (L2.wipe σ is) H
  | [], h => h
  | i :: is, h => (StI.wipe (is := is) h).forget i none
end

/-! ### programs on data -/
inductive Res (α : Type) where
  | ok (a : α) (ρ : State)
  | ex (c : Str) (ns : List Str) (ds : List D) (ρ : State)
  | er
abbrev M (α : Type) := State → Res α
def M.pure {α : Type} (a : α) : M α := fun ρ => .ok a ρ
def Res.then {α β : Type} (r : Res α) (f : α → M β) : Res β := match r with
  | .ok a ρ' => f a ρ'
  | .ex c ns ds ρ' => .ex c ns ds ρ'
  | .er => .er
def M.bind {α β : Type} (m : M α) (f : α → M β) : M β := fun ρ => (m ρ).then f
def M.fail {α : Type} : M α := fun _ => .er
def M.opt {α : Type} (o : Option α) : M α := fun ρ => match o with
  | some a => .ok a ρ
  | none => .er
instance : Monad M where
  pure := M.pure
  bind := M.bind

theorem bind_at {α β : Type} (m : M α) (f : α → M β) (ρ : State) : (m >>= f) ρ = (m ρ).then f := rfl
theorem pure_at {α : Type} (a : α) (ρ : State) : (pure a : M α) ρ = .ok a ρ := rfl
section
variable (K : PySem.W.Frag) (mg : Str → Option Value)
/-- an exception's fields -/
def ExAt (H : Hp) (c : Str) (ns : List Str) (ds : List D) (C : Addr) (d : Option Addr) : Prop :=
  mg c = some (.ref C) ∧ ((ns = [] ∧ ds = [] ∧ d = none) ∨ ∃ n x a v, ns = [n] ∧ ds = [x] ∧ d = some a ∧ H a = some (.xd [(n, v)]) ∧ Rep K mg (fun _ => none) v x)
def PostX (B : Bs) (W : WX) (σ : L2.St) (c : Str) (ns : List Str) (ds : List D) (ρ' : State) : Prop := ∀ C d H', St K mg B ρ' [] σ H' → ExAt K mg H' c ns ds C d → W (.ref C) d σ H'
def PostE (B : Bs) (W : WX) (τ : List (V × R)) (σ : L2.St) (Q : VK) : Res R → Prop
  | .ok r ρ' => ∀ v H', St K mg B ρ' ((v, r) :: τ) σ H' → Q v H'
  | .ex c ns ds ρ' => PostX K mg B W σ c ns ds ρ'
  | .er => False
def PostV (B : Bs) (W : WX) (τ : List (V × R)) (σ : L2.St) (Q : VK) : Res D → Prop
  | .ok d ρ' => ∀ v H', StV K mg B ρ' τ v d σ H' → Q v H'
  | .ex c ns ds ρ' => PostX K mg B W σ c ns ds ρ'
  | .er => False
def PostT (B : Bs) (W : WX) (τ : List (V × R)) (σ : L2.St) (Q : Bool → Hp → Prop) : Res Bool → Prop
  | .ok b ρ' => ∀ H', St K mg B ρ' τ σ H' → Q b H'
  | .ex c ns ds ρ' => PostX K mg B W σ c ns ds ρ'
  | .er => False
def PostA (B : Bs) (W : WX) (τ : List (V × R)) (σ : L2.St) (Q : List V → Hp → Prop) : Res (List R) → Prop
  | .ok rs ρ' => ∀ vs H', vs.length = rs.length → St K mg B ρ' ((vs.zip rs).reverse ++ τ) σ H' → Q vs H'
  | .ex c ns ds ρ' => PostX K mg B W σ c ns ds ρ'
  | .er => False
end
def AnyE (X : Cx) (e : Expr) : TE := fun σ H Q => ∃ t, PE X e t ∧ t σ H Q
def AnyT (X : Cx) (e : Expr) : TT := fun σ H Q => ∃ t, PT X e t ∧ t σ H Q
def AnyA (X : Cx) (es : List Expr) : TA := fun σ H Q => ∃ t, PA X es t ∧ t σ H Q
def AnyS (X : Cx) (st : Stmt) : TS := fun D σ H => ∃ t, PS X st t ∧ t D σ H
def AnySs (X : Cx) (st : List Stmt) : TS := fun D σ H => ∃ t, PSs X st t ∧ t D σ H
section
variable {X : Cx} {e : Expr} {es : List Expr} {st : Stmt} {sts : List Stmt}
theorem pe_any : PE X e (AnyE X e) := ⟨fun pins s σ H Q I h => by obtain ⟨t, ht, h⟩ := h; exact ht.run pins s σ H Q I h⟩
theorem pt_any : PT X e (AnyT X e) := ⟨fun pins s σ H Q I h => by obtain ⟨t, ht, h⟩ := h; exact ht.run pins s σ H Q I h⟩
theorem pa_any : PA X es (AnyA X es) := ⟨fun pos pins s σ H Q I h => by obtain ⟨t, ht, h⟩ := h; exact ht.run pos pins s σ H Q I h⟩
theorem ps_any : PS X st (AnyS X st) := ⟨fun pins s σ H D I h => by obtain ⟨t, ht, h⟩ := h; exact ht.run pins s σ H D I h⟩
theorem pss_any : PSs X sts (AnySs X sts) := ⟨fun pins s σ H D I h => by obtain ⟨t, ht, h⟩ := h; exact ht.run pins s σ H D I h⟩
end
/-- an expression does what a program on data does -/
def TrE (X : Cx) (W : WX) (e : Expr) (m : M R) : Prop := ∀ B ρ τ σ H Q, St X.K X.mg B ρ τ σ H → PostE X.K X.mg B W τ σ Q (m ρ) → AnyE X e σ H Q
def TrV (X : Cx) (W : WX) (e : Expr) (m : M D) : Prop := ∀ B ρ τ σ H Q, St X.K X.mg B ρ τ σ H → PostV X.K X.mg B W τ σ Q (m ρ) → AnyE X e σ H Q
def TrT (X : Cx) (W : WX) (e : Expr) (m : M Bool) : Prop := ∀ B ρ τ σ H Q, St X.K X.mg B ρ τ σ H → PostT X.K X.mg B W τ σ Q (m ρ) → AnyT X e σ H Q
def TrA (X : Cx) (W : WX) (es : List Expr) (m : M (List R)) : Prop := ∀ B ρ τ σ H Q, St X.K X.mg B ρ τ σ H → PostA X.K X.mg B W τ σ Q (m ρ) → AnyA X es σ H Q

/-! ### names, constants -/
def mVar (i : Nat) : M R := fun ρ => match ρ[i]? with
  | some (.va d) => .ok (.cl d) ρ
  | some (.ow d) => .ok (.cl d) (ρ.set i (.va d))
  | _ => .er
def mPeek (i : Nat) : M D := fun ρ => match peekS ρ[i]? with
  | some d => .ok d ρ
  | none => .er
def mC (d : D) : M R := fun ρ => .ok (.cl d) ρ
def mVal (m : M R) : M D := fun ρ => match m ρ with
  | .ok r ρ' => .ok r.d ρ'
  | .ex c ns ds ρ' => .ex c ns ds ρ'
  | .er => .er
section
variable {X : Cx} {W : WX} {e a b : Expr} {m ma mb : M R} {i : Nat} {x : Str} {pos : Pos}
theorem tr_var (hN : X.N[i]? = some x := by rfl) (hv : Vis X.env.scope x := by first | exact Or.inl rfl | exact Or.inr (Or.inl rfl) | exact Or.inr (Or.inr rfl)) (hd : (x == ("__debug__" : Str)) = false := by decide) (hcd : (x == ("__classdict__" : Str)) = false := by decide) :
    TrE X W (.Name x pos) (mVar i) := by
  intro B ρ τ σ H Q ⟨Hk, w, h⟩ q
  refine ⟨tVar i, pe_var hN hv hd hcd, ?_⟩
  unfold mVar at q
  cases hr : ρ[i]? with
  | none => rw [hr] at q; exact q.elim
  | some sl =>
    rw [hr] at q
    cases sl with
    | no => exact q.elim
    | io d => exact q.elim
    | va d =>
      obtain ⟨v, hv, hrep⟩ := h.val hr
      exact ⟨v, hv, q v H ⟨Hk, w, h.push hrep⟩⟩
    | ow d =>
      obtain ⟨Hk', w', v, ek, hv, hrep, h'⟩ := h.fix hr
      exact ⟨v, hv, q v H ⟨Hk', w', h'.push hrep⟩⟩
theorem tr_peek (hN : X.N[i]? = some x := by rfl) (hv : Vis X.env.scope x := by first | exact Or.inl rfl | exact Or.inr (Or.inl rfl) | exact Or.inr (Or.inr rfl)) (hd : (x == ("__debug__" : Str)) = false := by decide) (hcd : (x == ("__classdict__" : Str)) = false := by decide) :
    TrV X W (.Name x pos) (mPeek i) := by
  intro B ρ τ σ H Q ⟨Hk, w, h⟩ q
  refine ⟨tVar i, pe_var hN hv hd hcd, ?_⟩
  unfold mPeek at q
  cases hr : peekS ρ[i]? with
  | none => rw [hr] at q; exact q.elim
  | some d =>
    rw [hr] at q
    obtain ⟨v, hv, hvw⟩ := h.peek hr
    exact ⟨v, hv, q v H ⟨Hk, w, h, hvw⟩⟩
theorem tr_val (h : TrE X W e m) : TrV X W e (mVal m) := by
  intro B ρ τ σ H Q hs q
  refine h B ρ τ σ H Q hs ?_
  unfold mVal at q
  cases hm : m ρ with
  | ok r ρ' =>
    rw [hm] at q
    exact fun v H' ⟨Hk, w, h'⟩ => q v H' ⟨Hk, w, h'.pop, h'.view⟩
  | ex c ns ds ρ' => rw [hm] at q; exact q
  | er => rw [hm] at q; exact q
theorem tr_int {i : Int} {j : Nat} : TrE X W (.Constant (.int i) j pos) (mC (.int i)) := fun B ρ τ σ H Q ⟨Hk, w, h⟩ q => ⟨_, pe_int, q _ H ⟨Hk, w, h.push (.int i)⟩⟩
theorem tr_bl {b : Bool} {j : Nat} : TrE X W (.Constant (.bool b) j pos) (mC (.bl b)) := fun B ρ τ σ H Q ⟨Hk, w, h⟩ q => ⟨_, pe_bl, q _ H ⟨Hk, w, h.push (.bl b)⟩⟩
theorem tr_non {j : Nat} : TrE X W (.Constant .none j pos) (mC .non) := fun B ρ τ σ H Q ⟨Hk, w, h⟩ q => ⟨_, pe_non, q _ H ⟨Hk, w, h.push .non⟩⟩
theorem tr_str {x : Str} {j : Nat} : TrE X W (.Constant (.str x) j pos) (mC (.str x)) := fun B ρ τ σ H Q ⟨Hk, w, h⟩ q => ⟨_, pe_str, q _ H ⟨Hk, w, h.push (.str x)⟩⟩
theorem tr_globI {i : Int} {t : Tok} (hg : Gl X x) (hm : X.mg x = some (.int i t)) (hd : (x == ("__debug__" : Str)) = false := by decide) : TrE X W (.Name x pos) (mC (.int i)) := fun B ρ τ σ H Q ⟨Hk, w, h⟩ q => ⟨_, pe_glob hg hm (v := .int i) ⟨t, rfl⟩ hd, q _ H ⟨Hk, w, h.push (.int i)⟩⟩
theorem tr_globS {i : Str} {t : Tok} (hg : Gl X x) (hm : X.mg x = some (.str i t)) (hd : (x == ("__debug__" : Str)) = false := by decide) : TrE X W (.Name x pos) (mC (.str i)) := fun B ρ τ σ H Q ⟨Hk, w, h⟩ q => ⟨_, pe_glob hg hm (v := .str i) ⟨t, rfl⟩ hd, q _ H ⟨Hk, w, h.push (.str i)⟩⟩

/-! ### how parts come together -/
theorem PostX.of_ex {K : PySem.W.Frag} {mg : Str → Option Value} {B : Bs} {σ : L2.St} {c : Str} {ns : List Str} {ds : List D} {ρ' : State} (h : PostX K mg B W σ c ns ds ρ') : PostX K mg B W σ c ns ds ρ' := h
/-- two in a row -/
def mPair (ma mb : M R) : M (R × R) := ma >>= fun x => mb >>= fun y => pure (x, y)
theorem two {B : Bs} {ρ : State} {τ : List (V × R)} {σ : L2.St} {H : Hp} {Q : V → V → Hp → Prop} {β : Type} {f : R → R → M β} {Post : Res β → Prop} (ha : TrE X W a ma) (hb : TrE X W b mb) (hs : St X.K X.mg B ρ τ σ H)
    (q : Post ((ma >>= fun x => mb >>= fun y => f x y) ρ)) (hx : ∀ c ns ds ρ', Post (.ex c ns ds ρ') → PostX X.K X.mg B W σ c ns ds ρ') (he : ¬ Post .er)
    (k : ∀ x y ρ' v u H', Post (f x y ρ') → St X.K X.mg B ρ' ((u, y) :: (v, x) :: τ) σ H' → Q v u H') : AnyE X a σ H fun v H1 => AnyE X b σ H1 fun u H2 => Q v u H2 := by
  refine ha B ρ τ σ H _ hs ?_
  rw [bind_at] at q
  cases h1 : ma ρ with
  | er => rw [h1] at q; exact (he q).elim
  | ex c ns ds ρ' => rw [h1] at q; exact hx _ _ _ _ q
  | ok x ρ1 =>
    rw [h1] at q
    intro v H1 hs1
    refine hb B ρ1 _ σ H1 _ hs1 ?_
    have q : Post ((mb >>= fun y => f x y) ρ1) := q
    rw [bind_at] at q
    cases h2 : mb ρ1 with
    | er => rw [h2] at q; exact (he q).elim
    | ex c ns ds ρ' => rw [h2] at q; exact hx _ _ _ _ q
    | ok y ρ2 =>
      rw [h2] at q
      exact fun u H2 hs2 => k x y ρ2 v u H2 q hs2
end
end Vy
namespace Vy
open PySem PySem.Spec PyProof.Rows L2
open Evl (Ex)
/-! ### what a view tells -/
section
variable {K : PySem.W.Frag} {mg : Str → Option Value} {B : Bs} {Hk H : Hp} {w : Addr → Option Own} {ρ : State} {τ : List (V × R)} {σ : L2.St} {v : V} {ds : List D} {d : D}
theorem Rep.int_eq {i : Int} (h : Rep K mg Hk v (.int i)) : v = .int i := by cases h; rfl
theorem Rep.bl_eq {i : Bool} (h : Rep K mg Hk v (.bl i)) : v = .bl i := by cases h; rfl
theorem Rep.str_eq {i : Str} (h : Rep K mg Hk v (.str i)) : v = .str i := by cases h; rfl
theorem Rep.non_eq (h : Rep K mg Hk v .non) : v = .non := by cases h; rfl
theorem View.int_eq {i : Int} (h : View K mg Hk H v (.int i)) : v = .int i := by
  rcases h with h | ⟨p, _, h⟩
  · exact h.int_eq
  · exact h.elim
theorem View.bl_eq {i : Bool} (h : View K mg Hk H v (.bl i)) : v = .bl i := by
  rcases h with h | ⟨p, _, h⟩
  · exact h.bl_eq
  · exact h.elim
theorem View.str_eq {i : Str} (h : View K mg Hk H v (.str i)) : v = .str i := by
  rcases h with h | ⟨p, _, h⟩
  · exact h.str_eq
  · exact h.elim
theorem View.non_eq (h : View K mg Hk H v .non) : v = .non := by
  rcases h with h | ⟨p, _, h⟩
  · exact h.non_eq
  · exact h.elim
theorem View.lst (h : View K mg Hk H v (.lst ds)) (e : Ex Hk H) : ∃ a xs, v = .ref a ∧ H a = some (.lst xs) ∧ RepL K mg Hk xs ds := by
  rcases h with h | ⟨p, rfl, xs, h, r⟩
  · cases h with
    | lst h r => exact ⟨_, _, rfl, e _ _ h, r⟩
  · exact ⟨p, xs, rfl, h, r⟩
theorem View.tup (h : View K mg Hk H v (.tup ds)) (e : Ex Hk H) : ∃ a xs, v = .ref a ∧ SqT K H a xs ∧ RepL K mg Hk xs ds := by
  rcases h with h | ⟨p, _, h⟩
  · cases h with
    | tup h r => exact ⟨_, _, rfl, sqT_up e h, r⟩
  · exact h.elim
theorem View.scr {ns : List Int} (h : View K mg Hk H v (.scr ns)) (e : Ex Hk H) : ∃ a, v = .ref a ∧ SqL K H a (ns.map V.int) := by
  rcases h with h | ⟨p, _, h⟩
  · cases h with
    | scr h => exact ⟨_, rfl, sqL_up e h⟩
  · exact h.elim
end
/-! ### data as the library has it -/
mutual
def D.py : D → Option PyData
  | .non => some .none
  | .bl b => some (.bool b)
  | .int i => some (.int i)
  | .str x => some (.str x)
  | .tup xs => (pyL xs).map .tuple
  | .lst xs => (pyL xs).map .list
  | _ => none
def pyL : List D → Option (List PyData)
  | [] => some []
  | d :: ds => match d.py, pyL ds with
    | some p, some ps => some (p :: ps)
    | _, _ => none
end
section
variable {K : PySem.W.Frag} {mg : Str → Option Value} {Hk H : Hp}
mutual
theorem Rep.dp : ∀ {d : D} {v : V} {p : PyData}, Rep K mg H v d → d.py = some p → Dp K H v p
  | .non, _, _, .non, e => by cases e; exact .non
  | .bl _, _, _, .bl b, e => by cases e; exact .bl b
  | .int _, _, _, .int b, e => by cases e; exact .int b
  | .str _, _, _, .str b, e => by cases e; exact .str b
  | .tup ds, _, p, .tup h r, e => by
    simp only [D.py, Option.map_eq_some_iff] at e
    obtain ⟨ps, e, rfl⟩ := e
    exact .tup h (RepL.dp r e)
  | .lst ds, _, p, .lst h r, e => by
    simp only [D.py, Option.map_eq_some_iff] at e
    obtain ⟨ps, e, rfl⟩ := e
    exact .lst (SqL.of h) (RepL.dp r e)
  | .scr _, _, _, .scr _, e => by cases e
  | .obj _ _ _, _, _, .obj _ _ _ _, e => by cases e
  | .fn _, _, _, .fn _, e => by cases e
  | .adr _, _, _, .adr, e => by cases e
  | .exc _ _ _ _, _, _, .exc _ _, e => by cases e
  | .clo _ _ _ _ _ _, _, _, .clo _ _ _, e => by cases e
  | .dct _ _, _, _, .dct _ _ _, e => by cases e
theorem RepL.dp : ∀ {ds : List D} {vs : List V} {ps : List PyData}, RepL K mg H vs ds → pyL ds = some ps → DpAll K H vs ps
  | [], _, _, .nil, e => by cases e; exact .nil
  | d :: ds, _, ps, .cons h r, e => by
    simp only [pyL] at e
    cases h1 : d.py with
    | none => rw [h1] at e; simp at e
    | some p =>
      cases h2 : pyL ds with
      | none => rw [h1, h2] at e; simp at e
      | some qs =>
        rw [h1, h2] at e
        cases e
        exact .cons (Rep.dp h h1) (RepL.dp r h2)
end
theorem View.dp {d : D} {v : V} {p : PyData} (h : View K mg Hk H v d) (e : Ex Hk H) (q : d.py = some p) : Dp K H v p := by
  rcases h with h | ⟨a, rfl, h⟩
  · exact (h.up e).dp q
  · cases d <;> simp only [Cont] at h <;> first | exact h.elim | skip
    · obtain ⟨xs, h, r⟩ := h
      exact Rep.dp (mg := mg) (.lst h (r.up e)) q
    · cases q
    · cases q
end

/-! ### two-place operations -/
def AnyR (X : Cx) (f : Value → Value → Sem Value) : R2 := fun x y H Q => ∃ r, OpR X f r ∧ r x y H Q
theorem op_any {X : Cx} {f : Value → Value → Sem Value} : OpR X f (AnyR X f) := fun pins s σ H x y v u Q I rx ry h => by
  obtain ⟨r, hr, h⟩ := h
  exact hr pins s σ H x y v u Q I rx ry h
def AnyC (X : Cx) (f : Value) : List V → Hp → VK → Prop := fun xs H Q => ∃ r, CallR X f r ∧ r xs H Q
theorem call_any {X : Cx} {f : Value} : CallR X f (AnyC X f) := fun pins s σ H xs us Q I r h => by
  obtain ⟨g, hg, h⟩ := h
  exact hg pins s σ H xs us Q I r h
def OpOk (X : Cx) (f : Value → Value → Sem Value) (g : D → D → Option R) : Prop := ∀ B ρ τ σ H Q (v u : V) (x y : R) r, g x.d y.d = some r → St X.K X.mg B ρ ((u, y) :: (v, x) :: τ) σ H →
  (∀ z H', St X.K X.mg B ρ ((z, r) :: τ) σ H' → Q z H') → AnyR X f v u H Q
def mOp (g : D → D → Option R) (ma mb : M R) : M R := ma >>= fun x => mb >>= fun y => M.opt (g x.d y.d)
section
variable {X : Cx} {W : WX} {e a b : Expr} {es : List Expr} {m ma mb : M R} {i : Nat} {x : Str} {pos p : Pos} {g : D → D → Option R}
theorem post_opt {K : PySem.W.Frag} {mg : Str → Option Value} {B : Bs} {ρ : State} {τ : List (V × R)} {σ : L2.St} {Q : VK} {o : Option R} (q : PostE K mg B W τ σ Q (M.opt o ρ)) : ∃ r, o = some r ∧ ∀ z H', St K mg B ρ ((z, r) :: τ) σ H' → Q z H' := by
  cases o with
  | none => exact q.elim
  | some r => exact ⟨r, rfl, q⟩
theorem two_op {f : Value → Value → Sem Value} (ho : OpOk X f g) (ha : TrE X W a ma) (hb : TrE X W b mb) {B : Bs} {ρ : State} {τ : List (V × R)} {σ : L2.St} {H : Hp} {Q : VK} (hs : St X.K X.mg B ρ τ σ H) (q : PostE X.K X.mg B W τ σ Q (mOp g ma mb ρ)) :
    AnyE X a σ H fun v H1 => AnyE X b σ H1 fun u H2 => AnyR X f v u H2 Q :=
  two (Post := PostE X.K X.mg B W τ σ Q) ha hb hs q (fun _ _ _ _ h => h) (fun h => h) fun x y ρ' v u H' q' hs' => by
    obtain ⟨r, e, k⟩ := post_opt q'
    exact ho B ρ' τ σ H' Q v u x y r e hs' k
theorem tr_bin {op : Operator} (ho : OpOk X (binaryOp op) g) (ha : TrE X W a ma) (hb : TrE X W b mb) : TrE X W (.BinOp a op b pos) (mOp g ma mb) := fun B ρ τ σ H Q hs q =>
  ⟨tOp (AnyR X (binaryOp op)) (AnyE X a) (AnyE X b), pe_op op_any pe_any pe_any, two_op ho ha hb hs q⟩
/-- a comparison (not in) -/
theorem tr_cmp {op : CmpOp} (ho : OpOk X (compareOp op) g) (ha : TrE X W a ma) (hb : TrE X W b mb) (hm : behindInMarks op b = false := by first | exact nomark _ | rfl) : TrE X W (.Compare a [op] [b] pos) (mOp g ma mb) := fun B ρ τ σ H Q hs q =>
  ⟨tOp (AnyR X (compareOp op)) (AnyE X a) (AnyE X b), pe_cmpR op_any pe_any pe_any hm, two_op ho ha hb hs q⟩
/-- as a test -/
def mBool (m : M R) : M Bool := m >>= fun r => match r.d with
  | .bl b => pure b
  | _ => M.fail
theorem bool_post {K : PySem.W.Frag} {mg : Str → Option Value} {B : Bs} {ρ : State} {τ : List (V × R)} {σ : L2.St} {Q : Bool → Hp → Prop} (q : PostT K mg B W τ σ Q (mBool m ρ)) : PostE K mg B W τ σ (fun v H => ∃ k, v = .bl k ∧ Q k H) (m ρ) := by
  have q : PostT K mg B W τ σ Q ((m ρ).then fun r => match r.d with
    | .bl b => pure b
    | _ => M.fail) := q
  cases h : m ρ with
  | er => rw [h] at q; exact q
  | ex c ns ds ρ' => rw [h] at q; exact q
  | ok r ρ' =>
    rw [h] at q
    intro v H' ⟨Hk, w, hs⟩
    have hv := hs.view
    have q : PostT K mg B W τ σ Q ((match r.d with
      | .bl b => pure b
      | _ => M.fail : M Bool) ρ') := q
    cases hd : r.d <;> rw [hd] at q hv <;> first | exact q.elim | skip
    exact ⟨_, hv.bl_eq, q H' ⟨Hk, w, hs.pop⟩⟩
theorem trT_cmp {op : CmpOp} (ho : OpOk X (compareOp op) g) (ha : TrE X W a ma) (hb : TrE X W b mb) (hm : behindInMarks op b = false := by first | exact nomark _ | rfl) : TrT X W (.Compare a [op] [b] pos) (mBool (mOp g ma mb)) := fun B ρ τ σ H Q hs q =>
  ⟨tTest (tOp (AnyR X (compareOp op)) (AnyE X a) (AnyE X b)), pt_cmpR op_any pe_any pe_any hm, two_op (Q := fun v H => ∃ k, v = .bl k ∧ Q k H) ho ha hb hs (bool_post q)⟩
/-- any expression whose value is a bool, as a test -/
theorem trT_val (h : TrE X W e m) (he : ∀ whole, isTrue e X.env whole = (do let v ← whole; standAt e.pos; holding [v] (truthy v)) := by intro _; rfl) : TrT X W e (mBool m) := fun B ρ τ σ H Q hs q =>
  ⟨tB (AnyE X e), pt_val pe_any he, h B ρ τ σ H _ hs (bool_post q)⟩
/-- not -/
def mNotT (m : M Bool) : M Bool := m >>= fun b => pure (!b)
theorem trT_not {m : M Bool} (h : TrT X W e m) : TrT X W (.UnaryOp .Not e pos) (mNotT m) := fun B ρ τ σ H Q hs q => ⟨tNot (AnyT X e), pt_not pt_any, h B ρ τ σ H _ hs (by
  have q : PostT X.K X.mg B W τ σ Q ((m ρ).then fun b => pure (!b)) := q
  cases h : m ρ with
  | er => rw [h] at q; exact q
  | ex c ns ds ρ' => rw [h] at q; exact q
  | ok b ρ' => rw [h] at q; exact fun H' hs' => q H' hs')⟩
/-- and, or as tests -/
def mAndT (m n : M Bool) : M Bool := m >>= fun b => if b then n else pure false
def mOrT (m n : M Bool) : M Bool := m >>= fun b => if b then pure true else n
def TrW (X : Cx) (W : WX) (e : Expr) (m : M Bool) : Prop := ∀ B ρ τ σ H Q, St X.K X.mg B ρ τ σ H → PostT X.K X.mg B W τ σ Q (m ρ) → ∃ t, PW X e t ∧ t σ H Q
theorem TrW.pt {m : M Bool} (h : TrW X W e m) : TrT X W e m := fun B ρ τ σ H Q hs q => by
  obtain ⟨t, ht, q⟩ := h B ρ τ σ H Q hs q
  exact ⟨t, ht.pt, q⟩
theorem trW_and1 {m : M Bool} (h : TrT X W a m) : TrW X W (.BoolOp .And [a] pos) m := fun B ρ τ σ H Q hs q => ⟨AnyT X a, pw_and1 pt_any, h B ρ τ σ H Q hs q⟩
theorem trW_or1 {m : M Bool} (h : TrT X W a m) : TrW X W (.BoolOp .Or [a] pos) m := fun B ρ τ σ H Q hs q => ⟨AnyT X a, pw_or1 pt_any, h B ρ τ σ H Q hs q⟩
def AnyW (X : Cx) (e : Expr) : TT := fun σ H Q => ∃ t, PW X e t ∧ t σ H Q
theorem pw_any : PW X e (AnyW X e) := ⟨fun wh pins s σ H Q I h => by obtain ⟨t, ht, h⟩ := h; exact ht.run wh pins s σ H Q I h⟩
theorem trW_and {m n : M Bool} {rest : List Expr} (h : TrT X W a m) (k : TrW X W (.BoolOp .And (b :: rest) pos) n) : TrW X W (.BoolOp .And (a :: b :: rest) pos) (mAndT m n) := fun B ρ τ σ H Q hs q =>
  ⟨tAnd (AnyT X a) (AnyW X _), pw_and pt_any pw_any, h B ρ τ σ H _ hs (by
    have q : PostT X.K X.mg B W τ σ Q ((m ρ).then fun b => if b then n else pure false) := q
    cases h : m ρ with
    | er => rw [h] at q; exact q
    | ex c ns ds ρ' => rw [h] at q; exact q
    | ok b ρ' =>
      rw [h] at q
      intro H' hs'
      cases b with
      | true => rw [if_pos rfl]; exact k B ρ' τ σ H' Q hs' q
      | false => rw [if_neg (by decide)]; exact q H' hs')⟩
theorem trW_or {m n : M Bool} {rest : List Expr} (h : TrT X W a m) (k : TrW X W (.BoolOp .Or (b :: rest) pos) n) : TrW X W (.BoolOp .Or (a :: b :: rest) pos) (mOrT m n) := fun B ρ τ σ H Q hs q =>
  ⟨tOr (AnyT X a) (AnyW X _), pw_or pt_any pw_any, h B ρ τ σ H _ hs (by
    have q : PostT X.K X.mg B W τ σ Q ((m ρ).then fun b => if b then pure true else n) := q
    cases h : m ρ with
    | er => rw [h] at q; exact q
    | ex c ns ds ρ' => rw [h] at q; exact q
    | ok b ρ' =>
      rw [h] at q
      intro H' hs'
      cases b with
      | true => rw [if_pos rfl]; exact q H' hs'
      | false => rw [if_neg (by decide)]; exact k B ρ' τ σ H' Q hs' q)⟩
/-- the same as values (all but the last a bool) -/
def mAndE (m n : M R) : M R := m >>= fun r => match r.d with
  | .bl true => n
  | .bl false => pure (.cl (.bl false))
  | _ => M.fail
def mOrE (m n : M R) : M R := m >>= fun r => match r.d with
  | .bl false => n
  | .bl true => pure (.cl (.bl true))
  | _ => M.fail
theorem tr_one {op : BoolOp} (h : TrE X W a m) : TrE X W (.BoolOp op [a] pos) m := fun B ρ τ σ H Q hs q => ⟨AnyE X a, pe_one pe_any, h B ρ τ σ H Q hs q⟩
theorem tr_and {n : M R} {rest : List Expr} (h : TrE X W a m) (k : TrE X W (.BoolOp .And (b :: rest) pos) n) : TrE X W (.BoolOp .And (a :: b :: rest) pos) (mAndE m n) := fun B ρ τ σ H Q hs q =>
  ⟨tAndV (AnyE X a) (AnyE X _), pe_and pe_any pe_any, h B ρ τ σ H _ hs (by
    have q : PostE X.K X.mg B W τ σ Q ((m ρ).then fun r => match r.d with
      | .bl true => n
      | .bl false => pure (.cl (.bl false))
      | _ => M.fail) := q
    cases h : m ρ with
    | er => rw [h] at q; exact q
    | ex c ns ds ρ' => rw [h] at q; exact q
    | ok r ρ' =>
      rw [h] at q
      intro v H' ⟨Hk, w, hs'⟩
      have hv := hs'.view
      have q : PostE X.K X.mg B W τ σ Q ((match r.d with
        | .bl true => n
        | .bl false => pure (.cl (.bl false))
        | _ => M.fail : M R) ρ') := q
      cases hd : r.d <;> rw [hd] at q hv <;> first | exact q.elim | skip
      rename_i c
      refine ⟨c, hv.bl_eq, ?_⟩
      cases c with
      | true => rw [if_pos rfl]; exact k B ρ' τ σ H' Q ⟨Hk, w, hs'.pop⟩ q
      | false => rw [if_neg (by decide)]; exact q _ _ ⟨Hk, w, hs'.pop.push (.bl false)⟩)⟩
theorem tr_or {n : M R} {rest : List Expr} (h : TrE X W a m) (k : TrE X W (.BoolOp .Or (b :: rest) pos) n) : TrE X W (.BoolOp .Or (a :: b :: rest) pos) (mOrE m n) := fun B ρ τ σ H Q hs q =>
  ⟨tOrV (AnyE X a) (AnyE X _), pe_or pe_any pe_any, h B ρ τ σ H _ hs (by
    have q : PostE X.K X.mg B W τ σ Q ((m ρ).then fun r => match r.d with
      | .bl false => n
      | .bl true => pure (.cl (.bl true))
      | _ => M.fail) := q
    cases h : m ρ with
    | er => rw [h] at q; exact q
    | ex c ns ds ρ' => rw [h] at q; exact q
    | ok r ρ' =>
      rw [h] at q
      intro v H' ⟨Hk, w, hs'⟩
      have hv := hs'.view
      have q : PostE X.K X.mg B W τ σ Q ((match r.d with
        | .bl false => n
        | .bl true => pure (.cl (.bl true))
        | _ => M.fail : M R) ρ') := q
      cases hd : r.d <;> rw [hd] at q hv <;> first | exact q.elim | skip
      rename_i c
      refine ⟨c, hv.bl_eq, ?_⟩
      cases c with
      | true => rw [if_pos rfl]; exact q _ _ ⟨Hk, w, hs'.pop.push (.bl true)⟩
      | false => rw [if_neg (by decide)]; exact k B ρ' τ σ H' Q ⟨Hk, w, hs'.pop⟩ q)⟩
def mNotE (m : M R) : M R := mBool m >>= fun b => pure (.cl (.bl (!b)))
theorem tr_not (h : TrE X W a m) : TrE X W (.UnaryOp .Not a pos) (mNotE m) := fun B ρ τ σ H Q hs q =>
  ⟨tNotV (AnyE X a), pe_not pe_any, h B ρ τ σ H _ hs (bool_post (Q := fun c H1 => Q (.bl (!c)) H1) (by
    have q : PostE X.K X.mg B W τ σ Q ((mBool m ρ).then fun b => pure (.cl (.bl (!b)))) := q
    cases h : mBool m ρ with
    | er => rw [h] at q; exact q
    | ex c ns ds ρ' => rw [h] at q; exact q
    | ok b ρ' => rw [h] at q; exact fun H' ⟨Hk, w, hs'⟩ => q _ _ ⟨Hk, w, hs'.push (.bl (!b))⟩))⟩
/-- a if c else b -/
def mIf (c : M Bool) (ma mb : M R) : M R := c >>= fun b => if b then ma else mb
theorem tr_if {c : Expr} {mc : M Bool} (hc : TrT X W c mc) (ha : TrE X W a ma) (hb : TrE X W b mb) : TrE X W (.IfExp c a b pos) (mIf mc ma mb) := fun B ρ τ σ H Q hs q =>
  ⟨tIf (AnyT X c) (AnyE X a) (AnyE X b), pe_ifExp pt_any pe_any pe_any, hc B ρ τ σ H _ hs (by
    have q : PostE X.K X.mg B W τ σ Q ((mc ρ).then fun b => if b then ma else mb) := q
    cases h : mc ρ with
    | er => rw [h] at q; exact q
    | ex c ns ds ρ' => rw [h] at q; exact q
    | ok d ρ' =>
      rw [h] at q
      intro H' hs'
      cases d with
      | true => rw [if_pos rfl]; exact ha B ρ' τ σ H' Q hs' q
      | false => rw [if_neg (by decide)]; exact hb B ρ' τ σ H' Q hs' q)⟩
/-- -a -/
def dNeg : D → Option R
  | .int i => some (.cl (.int (-i)))
  | _ => none
def mNeg (m : M R) : M R := m >>= fun r => M.opt (dNeg r.d)
theorem tr_neg (h : TrE X W a m) : TrE X W (.UnaryOp .USub a pos) (mNeg m) := fun B ρ τ σ H Q hs q =>
  ⟨tUn (rU fun i => .int (-i)) (AnyE X a), pe_un un_neg pe_any, h B ρ τ σ H _ hs (by
    have q : PostE X.K X.mg B W τ σ Q ((m ρ).then fun r => M.opt (dNeg r.d)) := q
    cases h : m ρ with
    | er => rw [h] at q; exact q
    | ex c ns ds ρ' => rw [h] at q; exact q
    | ok r ρ' =>
      rw [h] at q
      intro v H' ⟨Hk, w, hs'⟩
      have hv := hs'.view
      obtain ⟨r', er, k⟩ := post_opt q
      cases hd : r.d <;> rw [hd] at er hv <;> simp only [dNeg, reduceCtorEq, Option.some.injEq] at er
      subst er
      rename_i i
      exact ⟨i, hv.int_eq, k _ _ ⟨Hk, w, hs'.pop.push (.int _)⟩⟩)⟩
end
end Vy
namespace Vy
open PySem PySem.Spec PyProof.Rows L2
open Evl (Ex)
/-- what every context of ours has -/
structure XR (k : Nat) (X : Cx) : Prop where
  room : Room k X.A
  gd : X.A.guards = some []
  calm : X.calm = true
  nd : X.N.Nodup
theorem XR.hu {k : Nat} {X : Cx} (x : XR k X) : X.A.units + 64 < cLine := x.room.units
theorem XR.hu2 {k : Nat} {X : Cx} (x : XR k X) : X.A.units + 200 < cLine := by have := x.room.un; omega

/-! ### the operators -/
def dAdd : D → D → Option R
  | .int a, .int b => some (.cl (.int (a + b)))
  | .str a, .str b => if a.length + b.length ≤ sizeLine then some (.cl (.str (a ++ b))) else none
  | .lst a, .lst b => if a.length + b.length ≤ sizeLine then some (.fr (.lst (a ++ b))) else none
  | .tup a, .tup b => if a.length + b.length ≤ sizeLine then some (.cl (.tup (a ++ b))) else none
  | _, _ => none
def dSub : D → D → Option R
  | .int a, .int b => some (.cl (.int (a - b)))
  | _, _ => none
def small64 (i : Int) : Bool := decide (i.natAbs < 2 ^ 64)
def dMul : D → D → Option R
  | .int a, .int b => if small64 a || small64 b then some (.cl (.int (a * b))) else if a.natAbs.log2 + b.natAbs.log2 < 1000000 then some (.cl (.int (a * b))) else none
  | .lst a, .int k => if 0 ≤ k ∧ k ≤ 1000 ∧ a.length ≤ 1000 then some (.fr (.lst (List.replicate k.toNat a).flatten)) else none
  | .tup a, .int k => if a ≠ [] ∧ 2 ≤ k ∧ k ≤ 1000 ∧ a.length ≤ 1000 then some (.cl (.tup (List.replicate k.toNat a).flatten)) else none
  | .str a, .int k => if 0 ≤ k ∧ k ≤ 1000 ∧ a.length ≤ 1000 then some (.cl (.str (Txt.mul a k))) else none
  | _, _ => none
def dDiv : D → D → Option R
  | .int a, .int b => if b ≠ 0 ∧ b.natAbs < 1073741824 then some (.cl (.int (a.fdiv b))) else if 0 < b ∧ b.natAbs.log2 < 9000 then some (.cl (.int (a / b))) else none
  | _, _ => none
def dMod : D → D → Option R
  | .int a, .int b => if b ≠ 0 then some (.cl (.int (a.fmod b))) else none
  | _, _ => none
def dPow : D → D → Option R
  | .int a, .int b => if 0 ≤ b ∧ b ≤ 1000000 ∧ a.natAbs < 2 ^ 64 then some (.cl (.int (a ^ b.toNat))) else none
  | _, _ => none
def dEqB : D → D → Option Bool
  | .int a, .int b => some (decide (a = b))
  | .str a, .str b => some (decide (a = b))
  | .bl a, .bl b => some (decide (a = b))
  | x, y => match x.py, y.py with
    | some p, some q => if SeqAt.shaped p && SeqAt.shaped q then some (PyData.eqv p q) else none
    | _, _ => none
def bR (b : Bool) : R := .cl (.bl b)
def dEq (x y : D) : Option R := (dEqB x y).map bR
def dNe (x y : D) : Option R := (dEqB x y).map fun b => bR (!b)
def dLt : D → D → Option R
  | .int a, .int b => some (bR (decide (a < b)))
  | .str a, .str b => some (bR (decide (a.cps.toList < b.cps.toList)))
  | _, _ => none
def dLe : D → D → Option R
  | .int a, .int b => some (bR (decide (a ≤ b)))
  | _, _ => none
def dGt : D → D → Option R
  | .int a, .int b => some (bR (decide (b < a)))
  | _, _ => none
def dGe : D → D → Option R
  | .int a, .int b => some (bR (decide (b ≤ a)))
  | _, _ => none
def dIs : D → D → Option R
  | .non, .non => some (bR true)
  | .bl a, .bl b => some (bR (decide (a = b)))
  | x, .non => match x with
    | .non => some (bR true)
    | _ => some (bR false)
  | _, _ => none
def dIsNot (x y : D) : Option R := match dIs x y with
  | some (.cl (.bl b)) => some (bR (!b))
  | _ => none
section
variable {X : Cx} {k : Nat}
theorem st2 {K : PySem.W.Frag} {mg : Str → Option Value} {B : Bs} {ρ : State} {τ : List (V × R)} {σ : L2.St} {H : Hp} {v u : V} {x y : R} (h : St K mg B ρ ((u, y) :: (v, x) :: τ) σ H) :
    ∃ Hk w, StI K mg B Hk w ρ τ σ H ∧ View K mg Hk H v x.d ∧ View K mg Hk H u y.d := by
  obtain ⟨Hk, w, h⟩ := h
  exact ⟨Hk, w, h.pop.pop, h.pop.view, h.view⟩
theorem okI {f : Value → Value → Sem Value} {C : Int → Int → Prop} {h : Int → Int → Int} (hr : OpR X f (rI C fun i j => .int (h i j))) {i j : Int} (hc : C i j) {H : Hp} {Q : VK} (q : Q (.int (h i j)) H) : AnyR X f (.int i) (.int j) H Q := ⟨_, hr, i, j, rfl, rfl, hc, q⟩
theorem okI0 {f : Value → Value → Sem Value} {h : Int → Int → Int} (hr : OpR X f (rI0 fun i j => .int (h i j))) {i j : Int} {H : Hp} {Q : VK} (q : Q (.int (h i j)) H) : AnyR X f (.int i) (.int j) H Q := ⟨_, hr, i, j, rfl, rfl, q⟩
theorem okB0 {f : Value → Value → Sem Value} {h : Int → Int → Bool} (hr : OpR X f (rI0 fun i j => .bl (h i j))) {i j : Int} {H : Hp} {Q : VK} (q : Q (.bl (h i j)) H) : AnyR X f (.int i) (.int j) H Q := ⟨_, hr, i, j, rfl, rfl, q⟩
theorem ok_add : OpOk X (binaryOp .Add) dAdd := by
  intro B ρ τ σ H Q v u x y r e hs q
  obtain ⟨Hk, w, hI, v1, v2⟩ := st2 hs
  clear hs
  cases hx : x.d <;> cases hy : y.d <;> rw [hx, hy] at e <;> simp only [dAdd, reduceCtorEq, Option.some.injEq] at e <;> rw [hx] at v1 <;> rw [hy] at v2
  · subst e; rw [v1.int_eq, v2.int_eq]; exact okI0 op_add (q _ _ ⟨Hk, w, hI.push (.int _)⟩)
  · split at e
    · rename_i hz; cases e; rw [v1.str_eq, v2.str_eq]; exact ⟨_, op_add_str, _, _, rfl, rfl, hz, q _ _ ⟨Hk, w, hI.push (.str _)⟩⟩
    · cases e
  · split at e
    · rename_i hz; cases e
      obtain ⟨a, xs, rfl, ha, ra⟩ := v1.tup hI.e1
      obtain ⟨b, ys, rfl, hb, rb⟩ := v2.tup hI.e1
      refine ⟨_, op_catA, a, b, xs, ys, rfl, rfl, ha, hb, by rw [ra.len, rb.len]; exact hz, fun h0 => ?_, fun h0 h1 => ?_, fun h0 h1 p hp => ?_⟩
      · subst h0
        cases ra
        rcases v2 with v2 | ⟨p, _, v2⟩
        · exact q _ _ ⟨Hk, w, hI.push v2⟩
        · exact v2.elim
      · subst h1
        cases rb
        rw [List.append_nil] at q
        rcases v1 with v1 | ⟨p, _, v1⟩
        · exact q _ _ ⟨Hk, w, hI.push v1⟩
        · exact v1.elim
      · have h2 := hI.laidK (o := .tup (xs ++ ys)) hp
        have ek : Ex Hk (upd Hk p (.tup (xs ++ ys))) := Ex.new (Evl.fresh_back hI.e1 hp)
        exact q _ _ ⟨_, w, h2.push (.tup (.inl (.inl upd_same)) ((ra.up ek).app (rb.up ek)))⟩
    · cases e
  · split at e
    · rename_i hz; cases e
      obtain ⟨a, xs, rfl, ha, ra⟩ := v1.lst hI.e1
      obtain ⟨b, ys, rfl, hb, rb⟩ := v2.lst hI.e1
      exact ⟨_, op_cat, a, b, xs, ys, rfl, rfl, ha, hb, by rw [ra.len, rb.len]; exact hz, fun p hp => q _ _ ⟨_, _, hI.laidO hp ⟨_, upd_same, ra.app rb⟩⟩⟩
    · cases e
theorem ok_sub : OpOk X (binaryOp .Sub) dSub := by
  intro B ρ τ σ H Q v u x y r e hs q
  obtain ⟨Hk, w, hI, v1, v2⟩ := st2 hs
  clear hs
  cases hx : x.d <;> cases hy : y.d <;> rw [hx, hy] at e <;> simp only [dSub, reduceCtorEq, Option.some.injEq] at e <;> rw [hx] at v1 <;> rw [hy] at v2
  subst e; rw [v1.int_eq, v2.int_eq]; exact okI0 op_sub (q _ _ ⟨Hk, w, hI.push (.int _)⟩)
theorem small_in {i : Int} (h : small64 i = true) : -(2 ^ 64) < i ∧ i < 2 ^ 64 := by
  have := of_decide_eq_true h
  omega
theorem rep_flat {K : PySem.W.Frag} {mg : Str → Option Value} {Hk : Hp} {xs : List V} {ds : List D} (r : RepL K mg Hk xs ds) : ∀ n : Nat, RepL K mg Hk (List.replicate n xs).flatten (List.replicate n ds).flatten
  | 0 => .nil
  | n + 1 => by
    rw [List.replicate_succ, List.replicate_succ, List.flatten_cons, List.flatten_cons]
    exact r.app (rep_flat r n)
theorem mulOk_small {x : Str} {n : Int} (h0 : 0 ≤ n) (h1 : n ≤ 1000) (h2 : x.length ≤ 1000) : MulOk x n := by
  refine ⟨?_, fun g _ => ?_, fun _ _ => ?_⟩
  · rw [Bool.or_eq_false_iff]
    exact ⟨decide_eq_false (by omega), decide_eq_false (by omega)⟩
  · have : (1000 : Int) ≤ (2 ^ 63 - 1) / n := Int.le_ediv_of_mul_le (by omega) (by omega)
    omega
  · have a : x.length * n.toNat ≤ 1000 * 1000 := Nat.mul_le_mul h2 (by omega)
    unfold Builtin.Str.tooLong
    exact decide_eq_false (Nat.not_lt.mpr (Nat.le_trans a (by decide)))
theorem op_mul_str : OpR X (binaryOp .Mult) (fun x y H Q => ∃ (i : Str) (n : Int), x = .str i ∧ y = .int n ∧ MulOk i n ∧ Q (.str (Txt.mul i n)) H) := by
  intro pins s σ H x y v u Q I rx ry h
  obtain ⟨i, n, rfl, rfl, hz, q⟩ := h
  obtain ⟨t, rfl⟩ := rx
  obtain ⟨t', rfl⟩ := ry
  exact SB.mul hz fun t' tk => ⟨.str (Txt.mul i n), H, I.tok _, ⟨_, rfl⟩, q⟩
theorem ok_mul : OpOk X (binaryOp .Mult) dMul := by
  intro B ρ τ σ H Q v u x y r e hs q
  obtain ⟨Hk, w, hI, v1, v2⟩ := st2 hs
  clear hs
  cases hx : x.d <;> cases hy : y.d <;> rw [hx, hy] at e <;> simp only [dMul, reduceCtorEq, Option.some.injEq] at e <;> rw [hx] at v1 <;> rw [hy] at v2
  · rw [v1.int_eq, v2.int_eq]
    split at e
    · rename_i hz
      cases e
      refine okI op_mul ?_ (q _ _ ⟨Hk, w, hI.push (.int _)⟩)
      rcases Bool.or_eq_true_iff.mp hz with hz | hz
      · exact .inl (small_in hz)
      · exact .inr (small_in hz)
    · split at e
      · rename_i hz
        cases e
        exact okI op_mulW hz (q _ _ ⟨Hk, w, hI.push (.int _)⟩)
      · cases e
  · split at e
    · rename_i hz
      cases e
      rw [v1.str_eq, v2.int_eq]
      exact ⟨_, op_mul_str, _, _, rfl, rfl, mulOk_small hz.1 hz.2.1 hz.2.2, q _ _ ⟨Hk, w, hI.push (.str _)⟩⟩
    · cases e
  · split at e
    · rename_i hz
      cases e
      obtain ⟨a, xs, rfl, ha, ra⟩ := v1.tup hI.e1
      rw [v2.int_eq]
      refine ⟨_, op_repT, a, _, xs, rfl, rfl, ha, fun h0 => hz.1 ?_, hz.2.1, hz.2.2.1, by rw [ra.len]; exact hz.2.2.2, fun p hp => ?_⟩
      · subst h0; exact List.eq_nil_of_length_eq_zero (ra.len.symm)
      · have ek : Ex Hk (upd Hk p (.tup (List.replicate (Int.toNat ‹Int›) xs).flatten)) := Ex.new (Evl.fresh_back hI.e1 hp)
        exact q _ _ ⟨_, w, (hI.laidK hp).push (.tup (.inl (.inl upd_same)) (rep_flat (ra.up ek) _))⟩
    · cases e
  · split at e
    · rename_i hz
      cases e
      obtain ⟨a, xs, rfl, ha, ra⟩ := v1.lst hI.e1
      rw [v2.int_eq]
      refine ⟨_, op_rep, a, _, xs, rfl, rfl, ha, by omega, by omega, ?_, fun p hp => q _ _ ⟨_, _, hI.laidO hp ⟨_, upd_same, rep_flat ra _⟩⟩⟩
      rw [ra.len, sizeLine_eq]
      have h1 : (Int.toNat ‹Int›) ≤ 1000 := by omega
      exact Nat.le_trans (Nat.mul_le_mul hz.2.2 h1) (by decide)
    · cases e
theorem ok_div : OpOk X (binaryOp .FloorDiv) dDiv := by
  intro B ρ τ σ H Q v u x y r e hs q
  obtain ⟨Hk, w, hI, v1, v2⟩ := st2 hs
  clear hs
  cases hx : x.d <;> cases hy : y.d <;> rw [hx, hy] at e <;> simp only [dDiv, reduceCtorEq, Option.some.injEq] at e <;> rw [hx] at v1 <;> rw [hy] at v2
  rw [v1.int_eq, v2.int_eq]
  split at e
  · rename_i hz; cases e; exact okI op_fdivN hz (q _ _ ⟨Hk, w, hI.push (.int _)⟩)
  · split at e
    · rename_i hz; cases e; exact okI op_fdivW hz (q _ _ ⟨Hk, w, hI.push (.int _)⟩)
    · cases e
theorem ok_mod : OpOk X (binaryOp .Mod) dMod := by
  intro B ρ τ σ H Q v u x y r e hs q
  obtain ⟨Hk, w, hI, v1, v2⟩ := st2 hs
  clear hs
  cases hx : x.d <;> cases hy : y.d <;> rw [hx, hy] at e <;> simp only [dMod, reduceCtorEq, Option.some.injEq] at e <;> rw [hx] at v1 <;> rw [hy] at v2
  rw [v1.int_eq, v2.int_eq]
  split at e
  · rename_i hz; cases e; exact okI op_modN hz (q _ _ ⟨Hk, w, hI.push (.int _)⟩)
  · cases e
theorem ok_pow : OpOk X (binaryOp .Pow) dPow := by
  intro B ρ τ σ H Q v u x y r e hs q
  obtain ⟨Hk, w, hI, v1, v2⟩ := st2 hs
  clear hs
  cases hx : x.d <;> cases hy : y.d <;> rw [hx, hy] at e <;> simp only [dPow, reduceCtorEq, Option.some.injEq] at e <;> rw [hx] at v1 <;> rw [hy] at v2
  rw [v1.int_eq, v2.int_eq]
  split at e
  · rename_i hz; cases e; exact okI op_pow hz (q _ _ ⟨Hk, w, hI.push (.int _)⟩)
  · cases e
theorem dEq_dp {K : PySem.W.Frag} {mg : Str → Option Value} {Hk H : Hp} {v u : V} {x y : D} {b : Bool} (e : Ex Hk H) (h : dEqB x y = some b) (v1 : View K mg Hk H v x) (v2 : View K mg Hk H u y) :
    (scal v u = true ∧ decide (v = u) = b) ∨ ∃ p q, Dp K H v p ∧ Dp K H u q ∧ SeqAt.shaped p = true ∧ SeqAt.shaped q = true ∧ PyData.eqv p q = b := by
  unfold dEqB at h
  split at h
  · rw [v1.int_eq, v2.int_eq]; exact .inl ⟨rfl, by rw [← Option.some.inj h]; exact decide_eq_decide.mpr ⟨fun z => V.int.inj z, fun z => by rw [z]⟩⟩
  · rw [v1.str_eq, v2.str_eq]; exact .inl ⟨rfl, by rw [← Option.some.inj h]; exact decide_eq_decide.mpr ⟨fun z => V.str.inj z, fun z => by rw [z]⟩⟩
  · rw [v1.bl_eq, v2.bl_eq]; exact .inl ⟨rfl, by rw [← Option.some.inj h]; exact decide_eq_decide.mpr ⟨fun z => V.bl.inj z, fun z => by rw [z]⟩⟩
  · cases hp : D.py x with
    | none => rw [hp] at h; simp at h
    | some p =>
      cases hq : D.py y with
      | none => rw [hp, hq] at h; simp at h
      | some q =>
        rw [hp, hq] at h
        simp only at h
        split at h
        · rename_i hz
          cases h
          obtain ⟨s1, s2⟩ := Bool.and_eq_true_iff.mp hz
          exact .inr ⟨p, q, v1.dp e hp, v2.dp e hq, s1, s2, rfl⟩
        · cases h
theorem ok_eq (xr : XR k X) : OpOk X (compareOp .Eq) dEq := by
  intro B ρ τ σ H Q v u x y r e hs q
  obtain ⟨Hk, w, hI, v1, v2⟩ := st2 hs
  obtain ⟨b, hb, rfl⟩ := Option.map_eq_some_iff.mp e
  rcases dEq_dp hI.e1 hb v1 v2 with ⟨h1, h2⟩ | ⟨p, p', h1, h2, s1, s2, hz⟩
  · exact ⟨_, op_eq, h1, by rw [h2]; exact q _ _ ⟨Hk, w, hI.push (.bl b)⟩⟩
  · exact ⟨_, op_eqD xr.hu, p, p', h1, h2, s1, s2, by rw [hz]; exact q _ _ ⟨Hk, w, hI.push (.bl b)⟩⟩
theorem ok_ne (xr : XR k X) : OpOk X (compareOp .NotEq) dNe := by
  intro B ρ τ σ H Q v u x y r e hs q
  obtain ⟨Hk, w, hI, v1, v2⟩ := st2 hs
  obtain ⟨b, hb, rfl⟩ := Option.map_eq_some_iff.mp e
  rcases dEq_dp hI.e1 hb v1 v2 with ⟨h1, h2⟩ | ⟨p, p', h1, h2, s1, s2, hz⟩
  · exact ⟨_, op_ne, h1, by rw [h2]; exact q _ _ ⟨Hk, w, hI.push (.bl (!b))⟩⟩
  · exact ⟨_, op_neD xr.hu, p, p', h1, h2, s1, s2, by rw [hz]; exact q _ _ ⟨Hk, w, hI.push (.bl (!b))⟩⟩
theorem ok_lt : OpOk X (compareOp .Lt) dLt := by
  intro B ρ τ σ H Q v u x y r e hs q
  obtain ⟨Hk, w, hI, v1, v2⟩ := st2 hs
  clear hs
  cases hx : x.d <;> cases hy : y.d <;> rw [hx, hy] at e <;> simp only [dLt, reduceCtorEq, Option.some.injEq] at e <;> rw [hx] at v1 <;> rw [hy] at v2
  · subst e; rw [v1.int_eq, v2.int_eq]; exact okB0 op_lt (q _ _ ⟨Hk, w, hI.push (.bl _)⟩)
  · subst e; rw [v1.str_eq, v2.str_eq]; exact ⟨_, op_lt_str, _, _, rfl, rfl, q _ _ ⟨Hk, w, hI.push (.bl _)⟩⟩
theorem ok_le : OpOk X (compareOp .LtE) dLe := by
  intro B ρ τ σ H Q v u x y r e hs q
  obtain ⟨Hk, w, hI, v1, v2⟩ := st2 hs
  clear hs
  cases hx : x.d <;> cases hy : y.d <;> rw [hx, hy] at e <;> simp only [dLe, reduceCtorEq, Option.some.injEq] at e <;> rw [hx] at v1 <;> rw [hy] at v2
  subst e; rw [v1.int_eq, v2.int_eq]; exact okB0 op_le (q _ _ ⟨Hk, w, hI.push (.bl _)⟩)
theorem ok_gt : OpOk X (compareOp .Gt) dGt := by
  intro B ρ τ σ H Q v u x y r e hs q
  obtain ⟨Hk, w, hI, v1, v2⟩ := st2 hs
  clear hs
  cases hx : x.d <;> cases hy : y.d <;> rw [hx, hy] at e <;> simp only [dGt, reduceCtorEq, Option.some.injEq] at e <;> rw [hx] at v1 <;> rw [hy] at v2
  subst e; rw [v1.int_eq, v2.int_eq]; exact okB0 op_gt (q _ _ ⟨Hk, w, hI.push (.bl _)⟩)
theorem ok_ge : OpOk X (compareOp .GtE) dGe := by
  intro B ρ τ σ H Q v u x y r e hs q
  obtain ⟨Hk, w, hI, v1, v2⟩ := st2 hs
  clear hs
  cases hx : x.d <;> cases hy : y.d <;> rw [hx, hy] at e <;> simp only [dGe, reduceCtorEq, Option.some.injEq] at e <;> rw [hx] at v1 <;> rw [hy] at v2
  subst e; rw [v1.int_eq, v2.int_eq]; exact okB0 op_ge (q _ _ ⟨Hk, w, hI.push (.bl _)⟩)
theorem View.not_non {K : PySem.W.Frag} {mg : Str → Option Value} {Hk H : Hp} {v : V} {d : D} (h : View K mg Hk H v d) (hd : d ≠ .non) : v ≠ .non := by
  rintro rfl
  rcases h with h | ⟨p, e, _⟩
  · cases h; exact hd rfl
  · cases e
theorem is_cases {x y : D} {r : R} (e : dIs x y = some r) : (∃ a b, x = .bl a ∧ y = .bl b ∧ r = bR (decide (a = b))) ∨ (y = .non ∧ ((x = .non ∧ r = bR true) ∨ (x ≠ .non ∧ r = bR false))) := by
  unfold dIs at e
  split at e
  · cases e; exact .inr ⟨rfl, .inl ⟨rfl, rfl⟩⟩
  · cases e; exact .inl ⟨_, _, rfl, rfl, rfl⟩
  · split at e
    · cases e; exact .inr ⟨rfl, .inl ⟨rfl, rfl⟩⟩
    · rename_i h; cases e; exact .inr ⟨rfl, .inr ⟨h, rfl⟩⟩
  · cases e
theorem ok_is : OpOk X (compareOp .Is) dIs := by
  intro B ρ τ σ H Q v u x y r e hs q
  obtain ⟨Hk, w, hI, v1, v2⟩ := st2 hs
  clear hs
  rcases is_cases e with ⟨a, b, ex, ey, rfl⟩ | ⟨ey, h⟩
  · rw [ex] at v1; rw [ey] at v2
    rw [v1.bl_eq, v2.bl_eq]
    exact ⟨_, op_isBl, a, b, rfl, rfl, q _ _ ⟨Hk, w, hI.push (.bl _)⟩⟩
  · rw [ey] at v2
    rcases h with ⟨ex, rfl⟩ | ⟨ex, rfl⟩
    · rw [ex] at v1
      rw [v1.non_eq, v2.non_eq]
      exact ⟨_, op_isN, rfl, by rw [decide_eq_true rfl]; exact q _ _ ⟨Hk, w, hI.push (.bl _)⟩⟩
    · rw [v2.non_eq]
      exact ⟨_, op_isN, rfl, by rw [decide_eq_false (v1.not_non ex)]; exact q _ _ ⟨Hk, w, hI.push (.bl _)⟩⟩
theorem ok_isnot : OpOk X (compareOp .IsNot) dIsNot := by
  intro B ρ τ σ H Q v u x y r e hs q
  obtain ⟨Hk, w, hI, v1, v2⟩ := st2 hs
  clear hs
  unfold dIsNot at e
  split at e
  · rename_i c e0
    cases e
    rcases is_cases e0 with ⟨a, b, ex, ey, ec⟩ | ⟨ey, h⟩
    · cases ec
      rw [ex] at v1; rw [ey] at v2
      rw [v1.bl_eq, v2.bl_eq]
      exact ⟨_, op_notBl, a, b, rfl, rfl, q _ _ ⟨Hk, w, hI.push (.bl _)⟩⟩
    · rw [ey] at v2
      rcases h with ⟨ex, ec⟩ | ⟨ex, ec⟩
      · cases ec
        rw [ex] at v1
        rw [v1.non_eq, v2.non_eq]
        exact ⟨_, op_notN, rfl, by rw [decide_eq_true rfl]; exact q _ _ ⟨Hk, w, hI.push (.bl _)⟩⟩
      · cases ec
        rw [v2.non_eq]
        exact ⟨_, op_notN, rfl, by rw [decide_eq_false (v1.not_non ex)]; exact q _ _ ⟨Hk, w, hI.push (.bl _)⟩⟩
  · cases e
end
end Vy
namespace Vy
open PySem PySem.Spec PyProof.Rows L2
open Evl (Ex)
/-! ### argument lists, displays -/
def mNil : M (List R) := pure []
def mCons (m : M R) (ms : M (List R)) : M (List R) := m >>= fun r => ms >>= fun rs => pure (r :: rs)
section
variable {X : Cx} {W : WX} {e a b : Expr} {es : List Expr} {m ma mb : M R} {ms : M (List R)} {i : Nat} {x : Str} {pos p : Pos}
theorem tr_nil : TrA X W [] mNil := fun B ρ τ σ H Q hs q => ⟨tNil, pa_nil, q [] H rfl hs⟩
theorem tr_cons (h : TrE X W e m) (hr : TrA X W es ms) (hse : starEach (e :: es) X.env = (false, eval e X.env) :: starEach es X.env := by rfl) : TrA X W (e :: es) (mCons m ms) := by
  intro B ρ τ σ H Q hs q
  refine ⟨tCons (AnyE X e) (AnyA X es), pa_cons pe_any pa_any hse, h B ρ τ σ H _ hs ?_⟩
  have q : PostA X.K X.mg B W τ σ Q ((m ρ).then fun r => ms >>= fun rs => pure (r :: rs)) := q
  cases h1 : m ρ with
  | er => rw [h1] at q; exact q
  | ex c ns ds ρ' => rw [h1] at q; exact q
  | ok r ρ1 =>
    rw [h1] at q
    intro v H1 hs1
    refine hr B ρ1 _ σ H1 _ hs1 ?_
    have q : PostA X.K X.mg B W τ σ Q ((ms ρ1).then fun rs => pure (r :: rs)) := q
    cases h2 : ms ρ1 with
    | er => rw [h2] at q; exact q
    | ex c ns ds ρ' => rw [h2] at q; exact q
    | ok rs ρ2 =>
      rw [h2] at q
      intro vs H2 hl hs2
      refine q (v :: vs) H2 (by simp [hl]) ?_
      rw [List.zip_cons_cons, List.reverse_cons, List.append_assoc]
      exact hs2
theorem clean_all {K : PySem.W.Frag} {mg : Str → Option Value} {B : Bs} {ρ : State} {τ : List (V × R)} {σ : L2.St} {H : Hp} {w : Addr → Option Own} : ∀ {T : List (V × R)} {Hk : Hp}, StI K mg B Hk w ρ (T ++ τ) σ H → ∃ Hk', Ex Hk Hk' ∧ StI K mg B Hk' w ρ τ σ H ∧ RepL K mg Hk' (T.map (·.1)) (T.map (·.2.d))
  | [], Hk, h => ⟨Hk, fun _ _ z => z, h, .nil⟩
  | (v, r) :: T, Hk, h => by
    obtain ⟨Hk1, e1, h1⟩ := h.clean
    have hr : Rep K mg Hk1 v r.d := h1.temps.1
    obtain ⟨Hk2, e2, h2, r2⟩ := clean_all h1.pop
    exact ⟨Hk2, e1.trans e2, h2, .cons (hr.up e2) r2⟩
theorem clean_args {K : PySem.W.Frag} {mg : Str → Option Value} {B : Bs} {ρ : State} {τ : List (V × R)} {σ : L2.St} {H : Hp} {w : Addr → Option Own} {Hk : Hp} {vs : List V} {rs : List R} (hl : vs.length = rs.length) (h : StI K mg B Hk w ρ ((vs.zip rs).reverse ++ τ) σ H) :
    ∃ Hk', Ex Hk Hk' ∧ StI K mg B Hk' w ρ τ σ H ∧ RepL K mg Hk' vs (rs.map R.d) := by
  obtain ⟨Hk', e, h', r⟩ := clean_all h
  refine ⟨Hk', e, h', ?_⟩
  rw [List.map_reverse, List.map_reverse] at r
  have r2 := r.rev
  rw [List.reverse_reverse, List.reverse_reverse, List.map_fst_zip (by omega)] at r2
  have e2 : (vs.zip rs).map (fun p => p.2.d) = rs.map R.d := by
    rw [show (fun p : V × R => p.2.d) = R.d ∘ Prod.snd from rfl, ← List.map_map, List.map_snd_zip (by omega)]
  rw [e2] at r2
  exact r2
def mTup (ms : M (List R)) : M R := ms >>= fun rs => if rs.length ≤ sizeLine then pure (.cl (.tup (rs.map R.d))) else M.fail
def mLst (ms : M (List R)) : M R := ms >>= fun rs => if rs.length ≤ sizeLine then pure (.fr (.lst (rs.map R.d))) else M.fail
theorem tr_tup {n : Nat} (h : TrA X W es ms) : TrE X W (.Tuple es n pos) (mTup ms) := by
  intro B ρ τ σ H Q hs q
  refine ⟨tTup (AnyA X es), pe_tup pa_any, h B ρ τ σ H _ hs ?_⟩
  have q : PostE X.K X.mg B W τ σ Q ((ms ρ).then fun rs => if rs.length ≤ sizeLine then pure (.cl (.tup (rs.map R.d))) else M.fail) := q
  cases h1 : ms ρ with
  | er => rw [h1] at q; exact q
  | ex c ns ds ρ' => rw [h1] at q; exact q
  | ok rs ρ1 =>
    rw [h1] at q
    intro vs H1 hl ⟨Hk, w, hI⟩
    have q : PostE X.K X.mg B W τ σ Q ((if rs.length ≤ sizeLine then pure (.cl (.tup (rs.map R.d))) else M.fail : M R) ρ1) := q
    obtain ⟨Hk', _, h', r⟩ := clean_args hl hI
    by_cases hz : rs.length ≤ sizeLine
    · rw [if_pos hz] at q
      refine ⟨by rw [hl]; exact hz, fun a ha => ?_⟩
      have ek : Ex Hk' (upd Hk' a (.tup vs)) := Ex.new (Evl.fresh_back h'.e1 ha)
      exact q _ _ ⟨_, w, (h'.laidK ha).push (.tup (.inl (.inl upd_same)) (r.up ek))⟩
    · rw [if_neg hz] at q; exact q.elim
theorem tr_lst (h : TrA X W es ms) : TrE X W (.List es pos) (mLst ms) := by
  intro B ρ τ σ H Q hs q
  refine ⟨L2.tLst (AnyA X es), pe_lst pa_any, h B ρ τ σ H _ hs ?_⟩
  have q : PostE X.K X.mg B W τ σ Q ((ms ρ).then fun rs => if rs.length ≤ sizeLine then pure (.fr (.lst (rs.map R.d))) else M.fail) := q
  cases h1 : ms ρ with
  | er => rw [h1] at q; exact q
  | ex c ns ds ρ' => rw [h1] at q; exact q
  | ok rs ρ1 =>
    rw [h1] at q
    intro vs H1 hl ⟨Hk, w, hI⟩
    have q : PostE X.K X.mg B W τ σ Q ((if rs.length ≤ sizeLine then pure (.fr (.lst (rs.map R.d))) else M.fail : M R) ρ1) := q
    obtain ⟨Hk', _, h', r⟩ := clean_args hl hI
    by_cases hz : rs.length ≤ sizeLine
    · rw [if_pos hz] at q
      exact ⟨by rw [hl]; exact hz, fun a ha => q _ _ ⟨_, _, h'.laidO ha ⟨_, upd_same, r⟩⟩⟩
    · rw [if_neg hz] at q; exact q.elim

/-! ### reading parts -/
/-- what a read-only operation on a value that may be read now gives -/
def RdOk (X : Cx) (f : V → Hp → VK → Prop) (g : D → Option R) : Prop := ∀ B ρ τ σ H Q v d r, g d = some r → StV X.K X.mg B ρ τ v d σ H → (∀ z H', St X.K X.mg B ρ ((z, r) :: τ) σ H' → Q z H') → f v H Q
def mRd (g : D → Option R) (m : M D) : M R := m >>= fun d => M.opt (g d)
theorem rd_post {f : V → Hp → VK → Prop} {g : D → Option R} {m : M D} (hf : RdOk X f g) {B : Bs} {ρ : State} {τ : List (V × R)} {σ : L2.St} {Q : VK} (q : PostE X.K X.mg B W τ σ Q (mRd g m ρ)) : PostV X.K X.mg B W τ σ (fun v H => f v H Q) (m ρ) := by
  have q : PostE X.K X.mg B W τ σ Q ((m ρ).then fun d => M.opt (g d)) := q
  cases h1 : m ρ with
  | er => rw [h1] at q; exact q
  | ex c ns ds ρ' => rw [h1] at q; exact q
  | ok d ρ1 =>
    rw [h1] at q
    intro v H' hv
    obtain ⟨r, er, k⟩ := post_opt q
    exact hf B ρ1 τ σ H' Q v d r er hv k
/-- xs[i] -/
def ixD (xs : List D) (i : Int) : Option D := atI xs i
def dIx : D → D → Option R
  | .lst xs, .int i => (ixD xs i).map .cl
  | .tup xs, .int i => (ixD xs i).map .cl
  | .str z, .int i => if z.length ≤ sizeLine then (atI z.cps.toList i).map fun c => .cl (.str ⟨#[c]⟩) else none
  | _, _ => none
theorem atI_rep {K : PySem.W.Frag} {mg : Str → Option Value} {H : Hp} {xs : List V} {ds : List D} {i : Int} {d : D} (r : RepL K mg H xs ds) (h : ixD ds i = some d) : ∃ v, atI xs i = some v ∧ Rep K mg H v d := by
  unfold ixD atI at h
  unfold atI
  rw [r.len]
  cases hj : ixN ds.length i with
  | none => rw [hj] at h; cases h
  | some j =>
    rw [hj] at h
    exact r.get h
/-- the container may be read now, the index is at hand -/
theorem ix_ok {B : Bs} {ρ : State} {τ : List (V × R)} {σ : L2.St} {H : Hp} {Q : VK} {v : V} {d : D} {i : Int} {r : R} (er : dIx d (.int i) = some r) (hv : StV X.K X.mg B ρ τ v d σ H) (k : ∀ z H', St X.K X.mg B ρ ((z, r) :: τ) σ H' → Q z H') : rIx X.K v (.int i) H Q := by
  obtain ⟨Hk, w, hI, hv⟩ := hv
  cases d <;> simp only [dIx, reduceCtorEq, Option.map_eq_some_iff] at er
  · split at er
    · rename_i hz
      simp only [Option.map_eq_some_iff] at er
      obtain ⟨c, hc, rfl⟩ := er
      rw [hv.str_eq]
      exact .inr (.inr ⟨_, _, c, rfl, rfl, hz, hc, k _ _ ⟨Hk, w, hI.push (.str _)⟩⟩)
    · cases er
  · obtain ⟨y, hy, rfl⟩ := er
    obtain ⟨a, xs, rfl, ha, ra⟩ := hv.tup hI.e1
    obtain ⟨z, hz, rz⟩ := atI_rep ra hy
    exact .inr (.inl ⟨a, xs, i, z, rfl, rfl, ha, hz, k _ _ ⟨Hk, w, hI.push rz⟩⟩)
  · obtain ⟨y, hy, rfl⟩ := er
    obtain ⟨a, xs, rfl, ha, ra⟩ := hv.lst hI.e1
    obtain ⟨z, hz, rz⟩ := atI_rep ra hy
    exact .inl ⟨a, xs, i, z, rfl, rfl, SqL.of ha, hz, k _ _ ⟨Hk, w, hI.push rz⟩⟩
def mIx (ma mb : M R) : M R := ma >>= fun x => mb >>= fun y => M.opt (dIx x.d y.d)
theorem int_of {K : PySem.W.Frag} {mg : Str → Option Value} {Hk H : Hp} {d y : D} {u : V} {r : R} (er : dIx d y = some r) (h : View K mg Hk H u y) : ∃ i, y = .int i ∧ u = .int i := by
  cases y <;> first | exact ⟨_, rfl, h.int_eq⟩ | (cases d <;> cases er)
theorem tr_ix (ha : TrE X W a ma) (hb : TrE X W b mb) (hp : PlainIx b := by exact fun _ _ => rfl) : TrE X W (.Subscript a b pos) (mIx ma mb) := fun B ρ τ σ H Q hs q =>
  ⟨tOp (rIx X.K) (AnyE X a) (AnyE X b), pe_ix ix_seq pe_any pe_any hp, two (Post := PostE X.K X.mg B W τ σ Q) ha hb hs q (fun _ _ _ _ h => h) (fun h => h) fun x y ρ' v u H' q' hs' => by
    obtain ⟨r, er, k⟩ := post_opt q'
    obtain ⟨Hk, w, hI, v1, v2⟩ := st2 hs'
    obtain ⟨i, ey, rfl⟩ := int_of er v2
    rw [ey] at er
    exact ix_ok er ⟨Hk, w, hI, v1⟩ k⟩
/-- x[i], x a name: the index first -/
def mIxN (i : Nat) (mb : M R) : M R := mPeek i >>= fun _ => mb >>= fun y => mPeek i >>= fun d => M.opt (dIx d y.d)
theorem peek_at {ρ : State} {d : D} {ρ' : State} (h : mPeek i ρ = .ok d ρ') : peekS ρ[i]? = some d ∧ ρ' = ρ := by
  unfold mPeek at h
  split at h
  · cases h; exact ⟨by assumption, rfl⟩
  · cases h
theorem peek_post {K : PySem.W.Frag} {mg : Str → Option Value} {B : Bs} {ρ : State} {τ : List (V × R)} {σ : L2.St} {Q : VK} {f : D → M R} (q : PostE K mg B W τ σ Q ((mPeek i >>= f) ρ)) : ∃ d, peekS ρ[i]? = some d ∧ PostE K mg B W τ σ Q (f d ρ) := by
  rw [bind_at] at q
  cases h2 : mPeek i ρ with
  | er => rw [h2] at q; exact q.elim
  | ex c ns ds ρ' => unfold mPeek at h2; split at h2 <;> cases h2
  | ok d ρ2 =>
    rw [h2] at q
    obtain ⟨hd, e⟩ := peek_at h2
    rw [e] at q
    exact ⟨d, hd, q⟩
theorem St.peek {K : PySem.W.Frag} {mg : Str → Option Value} {B : Bs} {ρ : State} {τ : List (V × R)} {σ : L2.St} {H : Hp} {d : D} (hs : St K mg B ρ τ σ H) (e : peekS ρ[i]? = some d) : ∃ v, σ[i]? = some (some v) := by
  obtain ⟨_, _, hI⟩ := hs
  obtain ⟨v, hv, _⟩ := hI.peek e
  exact ⟨v, hv⟩
theorem tr_ixN (hb : TrE X W b mb) (hN : X.N[i]? = some x := by rfl) (hv : Vis X.env.scope x := by first | exact Or.inl rfl | exact Or.inr (Or.inl rfl) | exact Or.inr (Or.inr rfl)) (hd : (x == ("__debug__" : Str)) = false := by decide) (hcd : (x == ("__classdict__" : Str)) = false := by decide)
    (hp : PlainIx b := by exact fun _ _ => rfl) : TrE X W (.Subscript (.Name x p) b pos) (mIxN i mb) := by
  intro B ρ τ σ H Q hs q
  refine ⟨tOp (rIx X.K) (tVar i) (AnyE X b), pe_ix ix_seq (pe_var hN hv hd hcd) pe_any hp, ?_⟩
  obtain ⟨d0, h0, q⟩ := peek_post q
  obtain ⟨v, hv⟩ := hs.peek h0
  refine ⟨v, hv, hb B ρ τ σ H _ hs ?_⟩
  have q : PostE X.K X.mg B W τ σ Q ((mb ρ).then fun y => mPeek i >>= fun d => M.opt (dIx d y.d)) := q
  cases h1 : mb ρ with
  | er => rw [h1] at q; exact q
  | ex c ns ds ρ' => rw [h1] at q; exact q
  | ok y ρ1 =>
    rw [h1] at q
    intro u H1 ⟨Hk, w, hI⟩
    obtain ⟨d, hd, q⟩ := peek_post q
    obtain ⟨r, er, k⟩ := post_opt q
    obtain ⟨v', hv', vw⟩ := hI.pop.peek hd
    rw [hv] at hv'; cases hv'
    obtain ⟨j, ey, rfl⟩ := int_of er hI.view
    rw [ey] at er
    exact ix_ok er ⟨Hk, w, hI.pop, vw⟩ k
/-! slices -/
def cutD (xs : List D) (lo hi : Option Int) : List D := (xs.drop (HT.sIx xs.length 0 lo)).take (HT.sIx xs.length xs.length hi - HT.sIx xs.length 0 lo)
def dSl (lo hi : Option Int) : D → Option R
  | .lst xs => some (.fr (.lst (cutD xs lo hi)))
  | .tup xs => some (.cl (.tup (cutD xs lo hi)))
  | .scr ns => some (.fr (.lst (cutD (ns.map D.int) lo hi)))
  | _ => none
theorem cut_rep {K : PySem.W.Frag} {mg : Str → Option Value} {H : Hp} {xs : List V} {ds : List D} {lo hi : Option Int} (r : RepL K mg H xs ds) : RepL K mg H (cutV xs lo hi) (cutD ds lo hi) := by
  unfold cutV cutD
  rw [r.len]
  exact (r.drop _).take _
theorem rep_ints {K : PySem.W.Frag} {mg : Str → Option Value} {H : Hp} : ∀ ns : List Int, RepL K mg H (ns.map V.int) (ns.map D.int)
  | [] => .nil
  | n :: ns => .cons (.int n) (rep_ints ns)
theorem whole_cut (xs : List D) {lo hi : Option Int} (h : HT.sIx xs.length 0 lo = 0 ∧ HT.sIx xs.length xs.length hi = xs.length) : cutD xs lo hi = xs := by
  unfold cutD
  rw [h.1, h.2]
  simp
def rSlX (K : PySem.W.Frag) : V → Option Int → Option Int → Hp → VK → Prop := fun x lo hi H Q => rSlA K x lo hi H Q ∨ rSlL K x lo hi H Q
theorem sl_ok {B : Bs} {ρ : State} {τ : List (V × R)} {σ : L2.St} {H : Hp} {Q : VK} {v : V} {d : D} {lo hi : Option Int} {r : R} (er : dSl lo hi d = some r) (hv : StV X.K X.mg B ρ τ v d σ H) (k : ∀ z H', St X.K X.mg B ρ ((z, r) :: τ) σ H' → Q z H') : rSlX X.K v lo hi H Q := by
  obtain ⟨Hk, w, hI, hv⟩ := hv
  cases d <;> simp only [dSl, reduceCtorEq, Option.some.injEq] at er <;> subst er
  · obtain ⟨a, xs, rfl, ha, ra⟩ := hv.tup hI.e1
    refine .inl ⟨a, xs, rfl, ha, fun hw => ?_, fun hw p hp => ?_⟩
    · rw [ra.len] at hw
      rw [whole_cut _ hw] at k
      rcases hv with hv | ⟨p, _, hv⟩
      · exact k _ _ ⟨Hk, w, hI.push hv⟩
      · exact hv.elim
    · have ek : Ex Hk (upd Hk p (.tup (cutV xs lo hi))) := Ex.new (Evl.fresh_back hI.e1 hp)
      exact k _ _ ⟨_, w, (hI.laidK hp).push (.tup (.inl (.inl upd_same)) (cut_rep (ra.up ek)))⟩
  · obtain ⟨a, xs, rfl, ha, ra⟩ := hv.lst hI.e1
    exact .inr ⟨a, xs, rfl, SqL.of ha, fun p hp => k _ _ ⟨_, _, hI.laidO hp ⟨_, upd_same, cut_rep ra⟩⟩⟩
  · obtain ⟨a, rfl, ha⟩ := hv.scr hI.e1
    exact .inr ⟨a, _, rfl, ha, fun p hp => k _ _ ⟨_, _, hI.laidO hp ⟨_, upd_same, cut_rep (rep_ints _)⟩⟩⟩
/-- the two ends -/
def TrO (X : Cx) (W : WX) (e : Option Expr) (m : M (Option Int)) : Prop := ∀ B ρ τ σ H (Q : Option Int → Hp → Prop), St X.K X.mg B ρ τ σ H →
  (match m ρ with
    | .ok o ρ' => ∀ H', St X.K X.mg B ρ' τ σ H' → Q o H'
    | .ex c ns ds ρ' => PostX X.K X.mg B W σ c ns ds ρ'
    | .er => False) → ∃ t, PO X e t ∧ t σ H Q
def AnyO (X : Cx) (e : Option Expr) : TO := fun σ H Q => ∃ t, PO X e t ∧ t σ H Q
theorem po_any {e : Option Expr} : PO X e (AnyO X e) := ⟨fun pins s σ H Q I h => by obtain ⟨t, ht, h⟩ := h; exact ht.run pins s σ H Q I h⟩
def mONo : M (Option Int) := pure none
def mOSome (m : M R) : M (Option Int) := m >>= fun r => match r.d with
  | .int i => pure (some i)
  | _ => M.fail
theorem tr_ono : TrO X W none mONo := fun B ρ τ σ H Q hs q => ⟨tNoPart, po_none, q H hs⟩
theorem tr_osome (h : TrE X W e m) : TrO X W (some e) (mOSome m) := by
  intro B ρ τ σ H Q hs q
  refine ⟨tPart (AnyE X e), po_some pe_any, h B ρ τ σ H _ hs ?_⟩
  have e0 : mOSome m ρ = (m ρ).then fun r => match r.d with
    | .int i => pure (some i)
    | _ => M.fail := rfl
  rw [e0] at q
  cases h1 : m ρ with
  | er => rw [h1] at q; exact q
  | ex c ns ds ρ' => rw [h1] at q; exact q
  | ok r ρ1 =>
    rw [h1] at q
    intro v H1 ⟨Hk, w, hI⟩
    have vw := hI.view
    have e1 : (Res.ok r ρ1).then (fun r => match r.d with
      | .int i => pure (some i)
      | _ => M.fail) = (match r.d with
      | .int i => pure (some i)
      | _ => M.fail : M (Option Int)) ρ1 := rfl
    rw [e1] at q
    cases hd : r.d <;> rw [hd] at q vw <;> first | exact q.elim | skip
    exact ⟨_, vw.int_eq, q _ ⟨Hk, w, hI.pop⟩⟩
def mSl (ma : M R) (ml mh : M (Option Int)) : M R := ma >>= fun x => ml >>= fun lo => mh >>= fun hi => M.opt (dSl lo hi x.d)
def mSlN (i : Nat) (ml mh : M (Option Int)) : M R := mPeek i >>= fun _ => ml >>= fun lo => mh >>= fun hi => mPeek i >>= fun d => M.opt (dSl lo hi d)
theorem slx : SlR X (rSlX X.K) := sl_tupA.or sl_list
theorem tr_ends {lo hi : Option Expr} {ml mh : M (Option Int)} (hl : TrO X W lo ml) (hh : TrO X W hi mh) {B : Bs} {ρ : State} {τ : List (V × R)} {σ : L2.St} {H : Hp} {τ' : List (V × R)} {Q : VK} {Q' : Option Int → Option Int → Hp → Prop} {f : Option Int → Option Int → M R} (hs : St X.K X.mg B ρ τ' σ H)
    (q : PostE X.K X.mg B W τ σ Q ((ml >>= fun lo => mh >>= fun hi => f lo hi) ρ)) (k : ∀ l h ρ' H', PostE X.K X.mg B W τ σ Q (f l h ρ') → St X.K X.mg B ρ' τ' σ H' → Q' l h H') :
    AnyO X lo σ H fun l H1 => AnyO X hi σ H1 fun h H2 => Q' l h H2 := by
  refine hl B ρ τ' σ H _ hs ?_
  have q : PostE X.K X.mg B W τ σ Q ((ml ρ).then fun lo => mh >>= fun hi => f lo hi) := q
  cases h1 : ml ρ with
  | er => rw [h1] at q; exact q
  | ex c ns ds ρ' => rw [h1] at q; exact q
  | ok l ρ1 =>
    rw [h1] at q
    intro H1 hs1
    refine hh B ρ1 τ' σ H1 _ hs1 ?_
    have q : PostE X.K X.mg B W τ σ Q ((mh ρ1).then fun hi => f l hi) := q
    cases h2 : mh ρ1 with
    | er => rw [h2] at q; exact q
    | ex c ns ds ρ' => rw [h2] at q; exact q
    | ok h ρ2 =>
      rw [h2] at q
      exact fun H2 hs2 => k l h ρ2 H2 q hs2
theorem tr_sl {lo hi : Option Expr} {ml mh : M (Option Int)} {p2 : Pos} (ha : TrE X W a ma) (hl : TrO X W lo ml) (hh : TrO X W hi mh) : TrE X W (.Subscript a (.Slice lo hi none p2) pos) (mSl ma ml mh) := by
  intro B ρ τ σ H Q hs q
  refine ⟨tSl (rSlX X.K) (AnyE X a) (AnyO X lo) (AnyO X hi), pe_slice slx pe_any po_any po_any, ha B ρ τ σ H _ hs ?_⟩
  have q : PostE X.K X.mg B W τ σ Q ((ma ρ).then fun x => ml >>= fun lo => mh >>= fun hi => M.opt (dSl lo hi x.d)) := q
  cases h1 : ma ρ with
  | er => rw [h1] at q; exact q
  | ex c ns ds ρ' => rw [h1] at q; exact q
  | ok x ρ1 =>
    rw [h1] at q
    intro v H1 hs1
    refine tr_ends hl hh hs1 q fun l h ρ' H' q' hs' => ?_
    obtain ⟨r, er, k⟩ := post_opt q'
    obtain ⟨Hk, w, hI⟩ := hs'
    exact sl_ok er ⟨Hk, w, hI.pop, hI.view⟩ k
theorem tr_slN {lo hi : Option Expr} {ml mh : M (Option Int)} {p2 : Pos} (hl : TrO X W lo ml) (hh : TrO X W hi mh) (hN : X.N[i]? = some x := by rfl) (hv : Vis X.env.scope x := by first | exact Or.inl rfl | exact Or.inr (Or.inl rfl) | exact Or.inr (Or.inr rfl)) (hd : (x == ("__debug__" : Str)) = false := by decide) (hcd : (x == ("__classdict__" : Str)) = false := by decide) :
    TrE X W (.Subscript (.Name x p) (.Slice lo hi none p2) pos) (mSlN i ml mh) := by
  intro B ρ τ σ H Q hs q
  refine ⟨tSl (rSlX X.K) (tVar i) (AnyO X lo) (AnyO X hi), pe_slice slx (pe_var hN hv hd hcd) po_any po_any, ?_⟩
  obtain ⟨d0, h0, q⟩ := peek_post q
  obtain ⟨v, hv⟩ := hs.peek h0
  refine ⟨v, hv, tr_ends hl hh hs q fun l h ρ' H' q' hs' => ?_⟩
  obtain ⟨d, hd, q⟩ := peek_post q'
  obtain ⟨r, er, k⟩ := post_opt q
  obtain ⟨Hk, w, hI⟩ := hs'
  obtain ⟨v', hv', vw⟩ := hI.peek hd
  rw [hv] at hv'; cases hv'
  exact sl_ok er ⟨Hk, w, hI, vw⟩ k
end
end Vy
namespace Vy
open PySem PySem.Spec PyProof.Rows L2
open Evl (Ex)
/-! ### statements -/
inductive Fl where
  | nx
  | rt (r : R)
  | bk
  | ct
def PostS (K : PySem.W.Frag) (mg : Str → Option Value) (B : Bs) (W : WX) (τ : List (V × R)) (D : Ends) : Res Fl → Prop
  | .ok .nx ρ' => ∀ σ' H', St K mg B ρ' τ σ' H' → D.nx σ' H'
  | .ok (.rt r) ρ' => ∀ v σ' H', St K mg B ρ' ((v, r) :: τ) σ' H' → D.rt v H'
  | .ok .bk ρ' => ∀ σ' H', St K mg B ρ' τ σ' H' → D.bk σ' H'
  | .ok .ct ρ' => ∀ σ' H', St K mg B ρ' τ σ' H' → D.ct σ' H'
  | .ex c ns ds ρ' => ∀ σ', PostX K mg B W σ' c ns ds ρ'
  | .er => False
def TrS (X : Cx) (W : WX) (st : Stmt) (m : M Fl) : Prop := ∀ B ρ τ σ H D, St X.K X.mg B ρ τ σ H → PostS X.K X.mg B W τ D (m ρ) → AnyS X st D σ H
def TrSs (X : Cx) (W : WX) (st : List Stmt) (m : M Fl) : Prop := ∀ B ρ τ σ H D, St X.K X.mg B ρ τ σ H → PostS X.K X.mg B W τ D (m ρ) → AnySs X st D σ H
def mNx : M Fl := pure .nx
def flow (f : Fl) (m : M Fl) : M Fl := match f with
  | .nx => m
  | f => pure f
def mSeq (m n : M Fl) : M Fl := m >>= fun f => flow f n
section
variable {X : Cx} {W : WX} {e a b : Expr} {es : List Expr} {m ma mb : M R} {ms : M (List R)} {i j : Nat} {x y : Str} {pos p p' : Pos} {st : Stmt} {sts : List Stmt} {n n1 n2 : M Fl} {c : Expr} {mc : M Bool}
theorem trs_nil : TrSs X W [] mNx := fun B ρ τ σ H D hs q => ⟨tNext, pss_nil, q σ H hs⟩
theorem trs_one (h : TrS X W st n) : TrSs X W [st] n := fun B ρ τ σ H D hs q => ⟨AnyS X st, pss_one ps_any, h B ρ τ σ H D hs q⟩
theorem trs_cons (h : TrS X W st n1) (k : TrSs X W sts n2) : TrSs X W (st :: sts) (mSeq n1 n2) := by
  intro B ρ τ σ H D hs q
  refine ⟨tSeq (AnyS X st) (AnySs X sts), pss_cons ps_any pss_any, h B ρ τ σ H { D with nx := AnySs X sts D } hs ?_⟩
  have q : PostS X.K X.mg B W τ D ((n1 ρ).then fun f => flow f n2) := q
  cases h1 : n1 ρ with
  | er => rw [h1] at q; exact q
  | ex c ns ds ρ' => rw [h1] at q; exact q
  | ok f ρ1 =>
    rw [h1] at q
    cases f with
    | nx => exact fun σ' H' hs' => k B ρ1 τ σ' H' D hs' q
    | rt r => exact q
    | bk => exact q
    | ct => exact q
theorem trs_pass : TrS X W (.Pass pos) mNx := fun B ρ τ σ H D hs q => ⟨tNext, ps_pass, q σ H hs⟩
theorem trs_break : TrS X W (.Break pos) (pure .bk) := fun B ρ τ σ H D hs q => ⟨tBreak, ps_break, q σ H hs⟩
theorem trs_cont : TrS X W (.Continue pos) (pure .ct) := fun B ρ τ σ H D hs q => ⟨tCont, ps_continue, q σ H hs⟩
/-- code that is not come to -/
theorem trs_never : TrS X W st M.fail := fun B ρ τ σ H D hs q => q.elim
theorem trss_never : TrSs X W sts M.fail := fun B ρ τ σ H D hs q => q.elim
def mRet (m : M R) : M Fl := m >>= fun r => pure (.rt r)
theorem trs_ret (h : TrE X W e m) : TrS X W (.Return (some e) pos) (mRet m) := by
  intro B ρ τ σ H D hs q
  refine ⟨tRet (AnyE X e), ps_ret pe_any, h B ρ τ σ H _ hs ?_⟩
  have q : PostS X.K X.mg B W τ D ((m ρ).then fun r => pure (.rt r)) := q
  cases h1 : m ρ with
  | er => rw [h1] at q; exact q
  | ex c ns ds ρ' => rw [h1] at q; exact q σ
  | ok r ρ1 => rw [h1] at q; exact fun v H' hs' => q v σ H' hs'
theorem trs_retN : TrS X W (.Return none pos) (mRet (mC .non)) := fun B ρ τ σ H D ⟨Hk, w, hI⟩ q => ⟨tRetN, ps_retN, q _ σ H ⟨Hk, w, hI.push .non⟩⟩
/-- return x, x a name whose own thing goes out -/
def mVarO (i : Nat) : M R := fun ρ => match ρ[i]? with
  | some (.va d) => .ok (.cl d) ρ
  | some (.ow d) => .ok (.fr d) (ρ.set i .no)
  | _ => .er
theorem tr_varO (hN : X.N[i]? = some x := by rfl) (hv : Vis X.env.scope x := by first | exact Or.inl rfl | exact Or.inr (Or.inl rfl) | exact Or.inr (Or.inr rfl)) (hd : (x == ("__debug__" : Str)) = false := by decide) (hcd : (x == ("__classdict__" : Str)) = false := by decide) :
    TrE X W (.Name x pos) (mVarO i) := by
  intro B ρ τ σ H Q ⟨Hk, w, h⟩ q
  refine ⟨tVar i, pe_var hN hv hd hcd, ?_⟩
  unfold mVarO at q
  cases hr : ρ[i]? with
  | none => rw [hr] at q; exact q.elim
  | some sl =>
    rw [hr] at q
    cases sl with
    | no => exact q.elim
    | io d => exact q.elim
    | va d =>
      obtain ⟨v, hv, hrep⟩ := h.val hr
      exact ⟨v, hv, q v H ⟨Hk, w, h.push hrep⟩⟩
    | ow d =>
      obtain ⟨w', v, hv, h'⟩ := h.lend hr
      exact ⟨v, hv, q v H ⟨Hk, w', h'⟩⟩
def mIfS (mc : M Bool) (n1 n2 : M Fl) : M Fl := mc >>= fun b => if b then n1 else n2
theorem trs_if {A B' : List Stmt} (hc : TrT X W c mc) (h1 : TrSs X W A n1) (h2 : TrSs X W B' n2) : TrS X W (.If c A B' pos) (mIfS mc n1 n2) := by
  intro B ρ τ σ H D hs q
  refine ⟨tIfS (AnyT X c) (AnySs X A) (AnySs X B'), ps_if pt_any pss_any pss_any, hc B ρ τ σ H _ hs ?_⟩
  have q : PostS X.K X.mg B W τ D ((mc ρ).then fun b => if b then n1 else n2) := q
  cases h1 : mc ρ with
  | er => rw [h1] at q; exact q
  | ex c ns ds ρ' => rw [h1] at q; exact q σ
  | ok b ρ1 =>
    rw [h1] at q
    intro H' hs'
    cases b with
    | true => rw [if_pos rfl]; exact (by assumption : TrSs X W A n1) B ρ1 τ σ H' D hs' q
    | false => rw [if_neg (by decide)]; exact h2 B ρ1 τ σ H' D hs' q
/-- a slot takes a value -/
def put (i : Nat) (r : R) (ρ : State) : Option State := match ρ[i]? with
  | none => none
  | some (.io _) => none
  | some _ => some (ρ.set i r.slot)
def M.sto (f : State → Option State) : M Unit := fun ρ => match f ρ with
  | some ρ' => .ok () ρ'
  | none => .er
def mSet (i : Nat) (m : M R) : M Fl := m >>= fun r => M.sto (put i r) >>= fun _ => pure .nx
theorem put_at {r : R} {ρ ρ' : State} (h : put i r ρ = some ρ') : ρ' = ρ.set i r.slot := by
  unfold put at h
  split at h <;> cases h
  rfl
theorem sto_post {K : PySem.W.Frag} {mg : Str → Option Value} {B : Bs} {ρ : State} {τ : List (V × R)} {D : Ends} {g : State → Option State} {f : Unit → M Fl} (q : PostS K mg B W τ D ((M.sto g >>= f) ρ)) : ∃ ρ', g ρ = some ρ' ∧ PostS K mg B W τ D (f () ρ') := by
  rw [bind_at] at q
  unfold M.sto at q
  cases h1 : g ρ with
  | none => rw [h1] at q; exact q.elim
  | some ρ1 => rw [h1] at q; exact ⟨ρ1, rfl, q⟩
theorem put_st {K : PySem.W.Frag} {mg : Str → Option Value} {B : Bs} {ρ ρ' : State} {τ : List (V × R)} {r : R} {v : V} {σ : L2.St} {H : Hp} (h : put i r ρ = some ρ') (hs : St K mg B ρ ((v, r) :: τ) σ H) : St K mg B ρ' τ (σ.set i (some v)) H := by
  rw [put_at h]
  obtain ⟨Hk, w, hI⟩ := hs
  obtain ⟨w', h'⟩ := hI.store (i := i)
  exact ⟨Hk, w', h'⟩
theorem trs_set (h : TrE X W e m) (xn : X.N.Nodup) (hi : X.N[i]? = some x := by rfl) (hx : Loc X.env.scope x := by first | exact Or.inl rfl | exact Or.inr rfl) (hs : swapsWith e (some (.Name x p')) pos.line X.env = pure false := by rfl)
    (hf : X.fn x = true ∨ X.env.scope.names.lookup x = some .local := by first | exact .inl rfl | exact .inr rfl) : TrS X W (.Assign [.Name x p'] e pos) (mSet i m) := by
  intro B ρ τ σ H D hst q
  refine ⟨tAsg (AnyE X e) (gName i), ps_set xn hi hx pe_any hs hf, h B ρ τ σ H _ hst ?_⟩
  have q : PostS X.K X.mg B W τ D ((m ρ).then fun r => M.sto (put i r) >>= fun _ => pure .nx) := q
  cases h1 : m ρ with
  | er => rw [h1] at q; exact q
  | ex c ns ds ρ' => rw [h1] at q; exact q σ
  | ok r ρ1 =>
    rw [h1] at q
    intro v H' hs'
    obtain ⟨ρ2, h2, q⟩ := sto_post q
    exact q _ _ (put_st h2 hs')
/-! targets -/
abbrev Tg := D → State → Option State
def TrG (X : Cx) (tg : Expr) (f : Tg) : Prop := ∀ B ρ ρ' τ σ H v d (Q : L2.St → Hp → Prop), St X.K X.mg B ρ ((v, .cl d) :: τ) σ H → f d ρ = some ρ' → (∀ σ' H', St X.K X.mg B ρ' τ σ' H' → Q σ' H') → ∃ t, PG X tg t ∧ t v σ H Q
def AnyG (X : Cx) (tg : Expr) : TG := fun v σ H Q => ∃ t, PG X tg t ∧ t v σ H Q
theorem pg_any {tg : Expr} : PG X tg (AnyG X tg) := ⟨fun pins s σ H v u Q I r h => by obtain ⟨t, ht, h⟩ := h; exact ht.run pins s σ H v u Q I r h⟩
def gSet (i : Nat) : Tg := fun d => put i (.cl d)
theorem trg_name (xn : X.N.Nodup) (hi : X.N[i]? = some x := by rfl) (hx : Loc X.env.scope x := by first | exact Or.inl rfl | exact Or.inr rfl) (hf : X.fn x = true ∨ X.env.scope.names.lookup x = some .local := by first | exact .inl rfl | exact .inr rfl) : TrG X (.Name x pos) (gSet i) :=
  fun B ρ ρ' τ σ H v d Q hs h1 q => ⟨gName i, pg_name xn hi hx hf, q _ _ (put_st h1 hs)⟩
/-- several names, one after another -/
def gSets : List Nat → List D → State → Option State
  | [], [], ρ => some ρ
  | i :: is, d :: ds, ρ => (put i (.cl d) ρ).bind (gSets is ds)
  | _, _, _ => none
def TrGs (X : Cx) (ts : List Expr) (is : List Nat) : Prop := ∀ B ρ ρ' τ σ H vs ds (Q : L2.St → Hp → Prop), (∃ Hk w, StI X.K X.mg B Hk w ρ τ σ H ∧ RepL X.K X.mg Hk vs ds) → gSets is ds ρ = some ρ' → (∀ σ' H', St X.K X.mg B ρ' τ σ' H' → Q σ' H') → ∃ t, PGs X ts t ∧ t vs σ H Q
def AnyGs (X : Cx) (ts : List Expr) : TGs := fun v σ H Q => ∃ t, PGs X ts t ∧ t v σ H Q
theorem pgs_any {ts : List Expr} : PGs X ts (AnyGs X ts) := ⟨fun pins s σ H v u Q I r h => by obtain ⟨t, ht, h⟩ := h; exact ht.run pins s σ H v u Q I r h⟩
theorem trgs_nil : TrGs X [] [] := by
  intro B ρ ρ' τ σ H vs ds Q ⟨Hk, w, hI, hr⟩ h1 q
  refine ⟨gNil, pgs_nil, ?_⟩
  cases hr with
  | nil => cases h1; exact ⟨rfl, q σ H ⟨Hk, w, hI⟩⟩
  | cons _ _ => cases h1
theorem trgs_cons {is : List Nat} {ts : List Expr} (k : TrGs X ts is) (xn : X.N.Nodup) (hi : X.N[i]? = some x := by rfl) (hx : Loc X.env.scope x := by first | exact Or.inl rfl | exact Or.inr rfl) (hf : X.fn x = true ∨ X.env.scope.names.lookup x = some .local := by first | exact .inl rfl | exact .inr rfl)
    (hs : (assignEach (.Name x pos :: ts) X.env).map (·.2) = assign (.Name x pos) X.env :: (assignEach ts X.env).map (·.2) := by rfl) : TrGs X (.Name x pos :: ts) (i :: is) := by
  intro B ρ ρ' τ σ H vs ds Q ⟨Hk, w, hI, hr⟩ h1 q
  refine ⟨gCons (gName i) (AnyGs X ts), pgs_cons (pg_name xn hi hx hf) pgs_any hs, ?_⟩
  cases hr with
  | nil => cases h1
  | cons h r =>
    rename_i v d vs ds
    refine ⟨v, vs, rfl, ?_⟩
    obtain ⟨ρ1, h2, h3⟩ := Option.bind_eq_some_iff.mp h1
    rw [put_at h2] at h3
    obtain ⟨w', h'⟩ := (hI.push h).store (i := i)
    exact k B _ ρ' τ _ H vs ds Q ⟨Hk, w', h', r⟩ h3 q
def gTupD (is : List Nat) : Tg
  | .tup ds => gSets is ds
  | _ => fun _ => none
theorem gSets_len : ∀ {is : List Nat} {ds : List D} {ρ ρ' : State}, gSets is ds ρ = some ρ' → ds.length = is.length
  | [], [], _, _, _ => rfl
  | i :: is, d :: ds, ρ, ρ', h => by
    obtain ⟨ρ1, h2, h3⟩ := Option.bind_eq_some_iff.mp h
    simp [gSets_len h3]
  | [], _ :: _, _, _, h => by cases h
  | _ :: _, [], _, _, h => by cases h
theorem trg_tup {is : List Nat} {ts : List Expr} {k : Nat} (h : TrGs X ts is) (hc : X.calm = true) (hn : (assignEach ts X.env).length = is.length := by rfl) (hst : (assignEach ts X.env).findIdx? (·.1) = none := by rfl) : TrG X (.Tuple ts k pos) (gTupD is) := by
  intro B ρ ρ' τ σ H v d Q ⟨Hk, w, hI⟩ h1 q
  refine ⟨gTup X.K is.length (AnyGs X ts), pg_tup hc pgs_any hn hst, ?_⟩
  have vw := hI.view
  cases d <;> first | cases h1 | skip
  obtain ⟨a, xs, rfl, ha, ra⟩ := vw.tup hI.e1
  exact ⟨a, xs, rfl, ha, by rw [ra.len]; exact gSets_len h1, h B ρ ρ' τ σ H xs _ Q ⟨Hk, w, hI.pop, ra⟩ h1 q⟩
def mUnpack (f : Tg) (m : M R) : M Fl := m >>= fun r => M.sto (f r.d) >>= fun _ => pure .nx
/-- a, b = e -/
theorem trs_unpack {tg : Expr} {f : Tg} (h : TrE X W e m) (hg : TrG X tg f) (hs : swapsWithSole [tg] e pos.line X.env = pure false := by rfl) (hw : swappedStores [tg] e X.env = pure none := by rfl)
    (h1 : (assignEach [tg] X.env).map (·.2) = [assign tg X.env] := by rfl) : TrS X W (.Assign [tg] e pos) (mUnpack f m) := by
  intro B ρ τ σ H D hst q
  refine ⟨tAsg (AnyE X e) (AnyG X tg), ps_asg pe_any pg_any hs hw h1, h B ρ τ σ H _ hst ?_⟩
  have q : PostS X.K X.mg B W τ D ((m ρ).then fun r => M.sto (f r.d) >>= fun _ => pure .nx) := q
  cases h1 : m ρ with
  | er => rw [h1] at q; exact q
  | ex c ns ds ρ' => rw [h1] at q; exact q σ
  | ok r ρ1 =>
    rw [h1] at q
    intro v H' ⟨Hk, w, hI⟩
    obtain ⟨Hk', _, hI'⟩ := hI.clean
    obtain ⟨ρ2, h2, q⟩ := sto_post q
    exact hg B ρ1 ρ2 τ σ H' v r.d _ ⟨Hk', w, hI'⟩ h2 q
/-- a, b = e1, e2 -/
def mPar (i j : Nat) (ms : M (List R)) : M Fl := ms >>= fun rs => match rs with
  | [x, y] => M.sto (put j y) >>= fun _ => M.sto (put i x) >>= fun _ => pure .nx
  | _ => M.fail
theorem trs_par {kt k2 : Nat} {pt pt2 px py : Pos} (h : TrA X W [a, b] ms) (hc : X.calm = true) (xn : X.N.Nodup) (hi : X.N[i]? = some x := by rfl) (hj : X.N[j]? = some y := by rfl) (hij : i ≠ j := by decide) (hx : X.env.scope.names.lookup x = some .local := by rfl) (hy : X.env.scope.names.lookup y = some .local := by rfl)
    (hw : swappedStores [.Tuple [.Name x px, .Name y py] kt pt] (.Tuple [a, b] k2 pt2) X.env = pure (some [x, y]) := by rfl) (hs : swapsWithSole [.Tuple [.Name x px, .Name y py] kt pt] (.Tuple [a, b] k2 pt2) pos.line X.env = pure false := by rfl) :
    TrS X W (.Assign [.Tuple [.Name x px, .Name y py] kt pt] (.Tuple [a, b] k2 pt2) pos) (mPar i j ms) := by
  intro B ρ τ σ H D hst q
  refine ⟨tPar i j (AnyA X [a, b]), ps_par hc xn hi hj hij hx hy pa_any hw hs, h B ρ τ σ H _ hst ?_⟩
  have q : PostS X.K X.mg B W τ D ((ms ρ).then fun rs => match rs with
    | [x, y] => M.sto (put j y) >>= fun _ => M.sto (put i x) >>= fun _ => pure .nx
    | _ => M.fail) := q
  cases h1 : ms ρ with
  | er => rw [h1] at q; exact q
  | ex c ns ds ρ' => rw [h1] at q; exact q σ
  | ok rs ρ1 =>
    rw [h1] at q
    intro vs H' hl hs'
    match rs, vs, hl, q, hs' with
    | [x, y], [v, u], _, q, hs' =>
      refine ⟨v, u, rfl, ?_⟩
      have q : PostS X.K X.mg B W τ D ((M.sto (put j y) >>= fun _ => M.sto (put i x) >>= fun _ => pure .nx) ρ1) := q
      obtain ⟨ρ2, h2, q⟩ := sto_post q
      obtain ⟨ρ3, h3, q⟩ := sto_post q
      have s1 := put_st h2 hs'
      have s2 := put_st h3 s1
      rw [List.set_comm _ _ hij]
      exact q _ _ s2
    | [], _, _, q, _ => exact q.elim
    | [_], _, _, q, _ => exact q.elim
    | _ :: _ :: _ :: _, _, _, q, _ => exact q.elim
def mPar3 (i j l : Nat) (ms : M (List R)) : M Fl := ms >>= fun rs => match rs with
  | [x, y, z] => M.sto (put l z) >>= fun _ => M.sto (put j y) >>= fun _ => M.sto (put i x) >>= fun _ => pure .nx
  | _ => M.fail
/-- e as a statement -/
def mDrop (m : M R) : M Fl := m >>= fun _ => pure .nx
theorem trs_drop (h : TrE X W e m) (hs : swapsWith e none pos.line X.env = pure false := by rfl) : TrS X W (.Expr e pos) (mDrop m) := by
  intro B ρ τ σ H D hst q
  refine ⟨tDrop (AnyE X e), ps_expr pe_any hs, h B ρ τ σ H _ hst ?_⟩
  have q : PostS X.K X.mg B W τ D ((m ρ).then fun _ => pure .nx) := q
  cases h1 : m ρ with
  | er => rw [h1] at q; exact q
  | ex c ns ds ρ' => rw [h1] at q; exact q σ
  | ok r ρ1 =>
    rw [h1] at q
    intro v H' ⟨Hk, w, hI⟩
    exact q σ H' ⟨Hk, w, hI.pop⟩
/-! ### while -/
def whileN (mc : M Bool) (nb : M Fl) : Nat → M Fl
  | 0 => M.fail
  | n + 1 => mc >>= fun b => if b then nb >>= fun f => match f with
      | .nx => whileN mc nb n
      | .ct => whileN mc nb n
      | .bk => pure .nx
      | .rt r => pure (.rt r)
    else pure .nx
theorem trs_while {A : List Stmt} {nb : M Fl} (N : Nat) (hc : TrT X W c mc) (hb : TrSs X W A nb) (hp : PassesOwn (model X.prog X.w) X.A X.env X.xe) : TrS X W (.While c A [] pos) (whileN mc nb N) := by
  intro B ρ τ σ H D hst q
  refine ⟨tWhile (AnyT X c) (AnySs X A), ps_while hp pt_any pss_any, fun m σ H => ∃ ρ, St X.K X.mg B ρ τ σ H ∧ PostS X.K X.mg B W τ D (whileN mc nb m ρ), ⟨N, ρ, hst, q⟩, ?_⟩
  rintro m σ1 H1 ⟨ρ1, hs1, q1⟩
  cases m with
  | zero => exact q1.elim
  | succ m =>
    refine hc B ρ1 τ σ1 H1 _ hs1 ?_
    have e0 : whileN mc nb (m + 1) ρ1 = (mc ρ1).then fun b => if b then nb >>= fun f => match f with
      | .nx => whileN mc nb m
      | .ct => whileN mc nb m
      | .bk => pure .nx
      | .rt r => pure (.rt r)
    else pure .nx := rfl
    rw [e0] at q1
    cases h1 : mc ρ1 with
    | er => rw [h1] at q1; exact q1
    | ex c ns ds ρ' => rw [h1] at q1; exact q1 σ1
    | ok b ρ2 =>
      rw [h1] at q1
      intro H2 hs2
      cases b with
      | false => rw [if_neg (by decide)]; exact q1 σ1 H2 hs2
      | true =>
        rw [if_pos rfl]
        refine ⟨fun σ' H' => ∃ ρ', St X.K X.mg B ρ' τ σ' H' ∧ PostS X.K X.mg B W τ D (whileN mc nb m ρ'), fun σ' H' h => ⟨m, Nat.lt_succ_self m, h⟩, hb B ρ2 τ σ1 H2 _ hs2 ?_⟩
        have e1 : (Res.ok true ρ2).then (fun b => if b then nb >>= fun f => match f with
          | .nx => whileN mc nb m
          | .ct => whileN mc nb m
          | .bk => pure .nx
          | .rt r => pure (.rt r)
        else pure .nx) = (nb ρ2).then fun f => match f with
          | .nx => whileN mc nb m
          | .ct => whileN mc nb m
          | .bk => pure .nx
          | .rt r => pure (.rt r) := rfl
        rw [e1] at q1
        cases h2 : nb ρ2 with
        | er => rw [h2] at q1; exact q1
        | ex c ns ds ρ' => rw [h2] at q1; exact q1
        | ok f ρ3 =>
          rw [h2] at q1
          cases f with
          | nx => exact fun σ' H' hs' => ⟨ρ3, hs', q1⟩
          | ct => exact fun σ' H' hs' => ⟨ρ3, hs', q1⟩
          | bk => exact q1
          | rt r => exact q1
end
end Vy
namespace Vy
open PySem PySem.Spec PyProof.Rows L2
open Evl (Ex)
section
variable {K : PySem.W.Frag} {mg : Str → Option Value} {B : Bs} {Hk Hk' H H' : Hp} {w w' : Addr → Option Own} {ρ : State} {τ T : List (V × R)} {σ : L2.St} {p : Addr} {o : HO} {v : V} {d d' : D} {r : R} {i : Nat}
theorem TempsOk.drop : ∀ {T0 : List (V × R)}, TempsOk K mg B Hk H w (T0 ++ τ) → TempsOk K mg B Hk H w τ
  | [], h => h
  | (v, r) :: T0, h => TempsOk.drop (T0 := T0) h.2
theorem StI.dropT {T0 : List (V × R)} (h : StI K mg B Hk w ρ (T0 ++ τ) σ H) : StI K mg B Hk w ρ τ σ H := ⟨h.len, h.e0, h.e1, h.fr, h.nk, h.live, h.slots, h.temps.drop⟩
theorem St.dropT {T0 : List (V × R)} (h : St K mg B ρ (T0 ++ τ) σ H) : St K mg B ρ τ σ H := by
  obtain ⟨Hk, w, h⟩ := h
  exact ⟨Hk, w, h.dropT⟩
/-- what lies under the top goes -/
theorem StI.under (h : StI K mg B Hk w ρ ((v, r) :: (T ++ τ)) σ H) : ∃ w', StI K mg B Hk w' ρ ((v, r) :: τ) σ H := by
  cases r with
  | cl d => exact ⟨w, (h.pop.dropT).push h.temps.1⟩
  | fr d =>
    obtain ⟨⟨p, rfl, hw, hk, h0, hc⟩, ht⟩ := h.temps
    have h2 := h.pop.dropT
    have keep : ∀ q y, y ≠ Own.t (T ++ τ).length → w q = some y → Hk q = none → (if q = p then some (Own.t τ.length) else w q) = some y ∧ Hk q = none ∧ ∀ u, H q = some u → H q = some u := fun q y ny hq hkq => by
      have ne : q ≠ p := fun e => by subst e; rw [hw] at hq; cases hq; exact ny rfl
      exact ⟨by rw [if_neg ne]; exact hq, hkq, fun _ z => z⟩
    refine ⟨fun q => if q = p then some (.t τ.length) else w q, h2.len, h2.e0, h2.e1, h2.fr, h2.nk, h2.live, fun j x sl e1 e2 => ?_, ⟨p, rfl, if_pos rfl, hk, h0, hc⟩, ?_⟩
    · exact (h2.slots j x sl e1 e2).up (fun _ _ z => z) fun q a b c => keep q _ (by simp) a c
    · exact h2.temps.up (fun _ _ z => z) fun n q hn a b c => keep q _ (by simp; omega) a c
theorem St.under (h : St K mg B ρ ((v, r) :: (T ++ τ)) σ H) : St K mg B ρ ((v, r) :: τ) σ H := by
  obtain ⟨Hk, w, h⟩ := h
  obtain ⟨w', h'⟩ := h.under
  exact ⟨Hk, w', h'⟩
/-- the top thing of our own is changed -/
theorem StI.mutT (h : StI K mg B Hk w ρ ((v, .fr d) :: τ) σ H) : ∃ p, v = .ref p ∧ Cont K mg Hk H p d ∧ ∀ o, Cont K mg Hk (upd H p o) p d' → StI K mg B Hk w ρ ((.ref p, .fr d') :: τ) σ (upd H p o) := by
  obtain ⟨⟨p, rfl, hw, hk, h0, hc⟩, ht⟩ := h.temps
  refine ⟨p, rfl, hc, fun o hc' => ?_⟩
  have keep : ∀ q y, y ≠ Own.t τ.length → w q = some y → Hk q = none → w q = some y ∧ Hk q = none ∧ ∀ u, H q = some u → upd H p o q = some u := fun q y ny hq hkq => by
    have ne : q ≠ p := fun e => by subst e; rw [hw] at hq; cases hq; exact ny rfl
    exact ⟨hq, hkq, fun u hu => by rw [upd_ne ne]; exact hu⟩
  refine ⟨h.len, h.e0, fun a u q => ?_, fun a u q n => ?_, nk_upd hc.nt.fz h.nk, h.live.own hc hc', fun j x sl e1 e2 => ?_, ⟨p, rfl, hw, hk, h0, hc'⟩, ht.up (fun _ _ z => z) fun n q hn a b c => keep q _ (by simp; omega) a c⟩
  · rw [upd_ne (by rintro rfl; rw [hk] at q; cases q)]; exact h.e1 a u q
  · rw [upd_ne (by rintro rfl; rw [h0] at q; cases q)]; exact h.fr a u q n
  · exact (h.slots j x sl e1 e2).up (fun _ _ z => z) fun q a b c => keep q _ (by simp) a c
theorem TempsOk.get : ∀ {T0 : List (V × R)}, TempsOk K mg B Hk H w (T0 ++ (v, r) :: τ) → TempOk K mg B Hk H w τ.length v r
  | [], h => h.1
  | _ :: T0, h => TempsOk.get (T0 := T0) h.2
theorem TempOk.view {n : Nat} (h : TempOk K mg B Hk H w n v r) : View K mg Hk H v r.d := by
  cases r with
  | cl d => exact .inl h
  | fr d => obtain ⟨p, e, _, _, _, c⟩ := h; exact .inr ⟨p, e, c⟩
end
/-! ### what is walked -/
def ItOk (K : PySem.W.Frag) (mg : Str → Option Value) (B : Bs) (J : It) (T : List (V × R)) (items : List D) : Prop := ∀ (i : Nat) ρ T0 τ σ H, St K mg B ρ (T0 ++ (T ++ τ)) σ H →
  (∀ d, items[i]? = some d → J.go i H ∧ ∀ x H', J.yld i H x H' → St K mg B ρ ((x, .cl d) :: (T0 ++ (T ++ τ))) σ H') ∧ (items.length ≤ i → J.stop i H)
def PostI (K : PySem.W.Frag) (mg : Str → Option Value) (B : Bs) (W : WX) (τ : List (V × R)) (σ : L2.St) (Q : It → Hp → Prop) : Res (List D) → Prop
  | .ok items ρ' => ∀ J T H', ItOk K mg B J T items → St K mg B ρ' (T ++ τ) σ H' → Q J H'
  | .ex c ns ds ρ' => PostX K mg B W σ c ns ds ρ'
  | .er => False
def AnyI (X : Cx) (tg iter : Expr) : TI := fun σ H Q => ∃ wi, PI X tg iter wi ∧ wi σ H Q
theorem pi_any {X : Cx} {tg iter : Expr} : PI X tg iter (AnyI X tg iter) := ⟨fun pins s σ H Q I h => by obtain ⟨t, ht, h⟩ := h; exact ht.run pins s σ H Q I h⟩
def TrI (X : Cx) (W : WX) (tg iter : Expr) (m : M (List D)) : Prop := ∀ B ρ τ σ H Q, St X.K X.mg B ρ τ σ H → PostI X.K X.mg B W τ σ Q (m ρ) → AnyI X tg iter σ H Q
section
variable {K : PySem.W.Frag} {mg : Str → Option Value} {B : Bs}
theorem it_list {a : Addr} {r : R} {ds : List D} (e : r.d = .lst ds) : ItOk K mg B (Itl K a) [(.ref a, r)] ds := by
  intro i ρ T0 τ σ H ⟨Hk, w, h⟩
  have vw := (h.temps.get (T0 := T0)).view
  rw [e] at vw
  obtain ⟨a', xs, ea, ha, ra⟩ := vw.lst h.e1
  cases ea
  refine ⟨fun d hd => ?_, fun hl => ⟨xs, SqL.of ha, by rw [ra.len]; exact hl⟩⟩
  obtain ⟨v, hv, rv⟩ := ra.get hd
  refine ⟨⟨xs, v, SqL.of ha, hv⟩, fun x H' hy => ?_⟩
  obtain ⟨rfl, hx⟩ := hy
  have hx := hx xs (SqL.of ha)
  rw [hv] at hx; cases hx
  exact ⟨Hk, w, h.push rv⟩
theorem it_tup {a : Addr} {r : R} {ds : List D} (e : r.d = .tup ds) : ItOk K mg B (Itt K a) [(.ref a, r)] ds := by
  intro i ρ T0 τ σ H ⟨Hk, w, h⟩
  have vw := (h.temps.get (T0 := T0)).view
  rw [e] at vw
  obtain ⟨a', xs, ea, ha, ra⟩ := vw.tup h.e1
  cases ea
  refine ⟨fun d hd => ?_, fun hl => ⟨xs, ha, by rw [ra.len]; exact hl⟩⟩
  obtain ⟨v, hv, rv⟩ := ra.get hd
  refine ⟨⟨xs, v, ha, hv⟩, fun x H' hy => ?_⟩
  obtain ⟨rfl, hx⟩ := hy
  have hx := hx xs ha
  rw [hv] at hx; cases hx
  exact ⟨Hk, w, h.push rv⟩
def signs (z : Str) : List D := z.cps.toList.map fun c => .str ⟨#[c]⟩
theorem it_str {z : Str} : ItOk K mg B (Its z) [] (signs z) := by
  intro i ρ T0 τ σ H ⟨Hk, w, h⟩
  refine ⟨fun d hd => ?_, fun hl => by simpa [Its, signs] using hl⟩
  unfold signs at hd
  rw [List.getElem?_map] at hd
  obtain ⟨c, hc, rfl⟩ := Option.map_eq_some_iff.mp hd
  rw [Array.getElem?_toList] at hc
  refine ⟨(Array.getElem?_eq_some_iff.mp hc).1, fun x H' hy => ?_⟩
  obtain ⟨rfl, c', hc', rfl⟩ := hy
  rw [hc] at hc'; cases hc'
  exact ⟨Hk, w, h.push (.str _)⟩
def rangeD (lo : Int) (n : Nat) : List D := (List.range n).map fun (i : Nat) => .int (lo + (i : Int))
theorem it_range {lo : Int} {n : Nat} : ItOk K mg B (Itr lo n) [] (rangeD lo n) := by
  intro i ρ T0 τ σ H ⟨Hk, w, h⟩
  refine ⟨fun d hd => ?_, fun hl => by simpa [Itr, rangeD] using hl⟩
  unfold rangeD at hd
  rw [List.getElem?_map] at hd
  obtain ⟨c, hc, rfl⟩ := Option.map_eq_some_iff.mp hd
  obtain ⟨h1, h2⟩ := List.getElem?_eq_some_iff.mp hc
  rw [List.length_range] at h1
  rw [List.getElem_range] at h2
  subst h2
  refine ⟨h1, fun x H' hy => ?_⟩
  obtain ⟨rfl, rfl⟩ := hy
  exact ⟨Hk, w, h.push (.int _)⟩
end
def itemsOf : D → Option (List D)
  | .lst ds => some ds
  | .tup ds => some ds
  | .str z => some (signs z)
  | _ => none
def mIt (m : M R) : M (List D) := m >>= fun r => M.opt (itemsOf r.d)
section
variable {X : Cx} {W : WX} {e a b tg : Expr} {es : List Expr} {m ma mb : M R} {ms : M (List R)} {i j : Nat} {x y : Str} {pos p p' : Pos}
theorem tri_it (h : TrE X W e m) : TrI X W tg e (mIt m) := by
  intro B ρ τ σ H Q hs q
  have q : PostI X.K X.mg B W τ σ Q ((m ρ).then fun r => M.opt (itemsOf r.d)) := q
  -- by what is walked
  cases h1 : m ρ with
  | er => rw [h1] at q; exact q.elim
  | ex c ns ds ρ' =>
    rw [h1] at q
    exact ⟨iList X.K (AnyE X e), pi_list pe_any, h B ρ τ σ H _ hs (by rw [h1]; exact q)⟩
  | ok r ρ1 =>
    rw [h1] at q
    have q : PostI X.K X.mg B W τ σ Q ((M.opt (itemsOf r.d) : M (List D)) ρ1) := q
    cases hd : r.d <;> rw [hd] at q <;> first | exact q.elim | skip
    · refine ⟨iStr (AnyE X e), pi_str pe_any, h B ρ τ σ H _ hs ?_⟩
      rw [h1]
      intro v H' ⟨Hk, w, hI⟩
      have vw := hI.view
      rw [hd] at vw
      exact ⟨_, vw.str_eq, q _ [] H' it_str ⟨Hk, w, hI.pop⟩⟩
    · refine ⟨iTup X.K (AnyE X e), pi_tup pe_any, h B ρ τ σ H _ hs ?_⟩
      rw [h1]
      intro v H' ⟨Hk, w, hI⟩
      have vw := hI.view
      rw [hd] at vw
      obtain ⟨a, xs, rfl, ha, ra⟩ := vw.tup hI.e1
      exact ⟨a, rfl, ⟨xs, ha⟩, q _ [(.ref a, r)] H' (it_tup hd) ⟨Hk, w, hI⟩⟩
    · refine ⟨iList X.K (AnyE X e), pi_list pe_any, h B ρ τ σ H _ hs ?_⟩
      rw [h1]
      intro v H' ⟨Hk, w, hI⟩
      have vw := hI.view
      rw [hd] at vw
      obtain ⟨a, xs, rfl, ha, ra⟩ := vw.lst hI.e1
      exact ⟨a, rfl, ⟨xs, SqL.of ha⟩, q _ [(.ref a, r)] H' (it_list hd) ⟨Hk, w, hI⟩⟩
def big62 (i : Int) : Bool := decide (-(2 ^ 62) ≤ i ∧ i < 2 ^ 62)
def range1 : D → Option (List D)
  | .int n => if big62 n then some (rangeD 0 n.toNat) else none
  | _ => none
def range2 : D → D → Option (List D)
  | .int a, .int b => if big62 a && big62 b then some (rangeD a (b - a).toNat) else none
  | _, _ => none
def mRange1 (m : M R) : M (List D) := m >>= fun r => M.opt (range1 r.d)
def mRange2 (ma mb : M R) : M (List D) := ma >>= fun x => mb >>= fun y => M.opt (range2 x.d y.d)
theorem opt_postI {K : PySem.W.Frag} {mg : Str → Option Value} {B : Bs} {ρ : State} {τ : List (V × R)} {σ : L2.St} {Q : It → Hp → Prop} {o : Option (List D)} (q : PostI K mg B W τ σ Q (M.opt o ρ)) : ∃ ds, o = some ds ∧ ∀ J T H', ItOk K mg B J T ds → St K mg B ρ (T ++ τ) σ H' → Q J H' := by
  cases o with
  | none => exact q.elim
  | some r => exact ⟨r, rfl, q⟩
theorem tri_range1 (ha : TrE X W a ma) (hg : Gl X "range") (hm : X.mg "range" = none) (hse : starEach [a] X.env = [(false, eval a X.env)] := by rfl) : TrI X W tg (.Call (.Name "range" p) [a] [] pos) (mRange1 ma) := by
  intro B ρ τ σ H Q hs q
  have q : PostI X.K X.mg B W τ σ Q ((ma ρ).then fun r => M.opt (range1 r.d)) := q
  refine ⟨iRng1 (tCons (AnyE X a) tNil), pi_range1 hg hm (pa_cons pe_any pa_nil hse) hse, ha B ρ τ σ H _ hs ?_⟩
  cases h1 : ma ρ with
  | er => rw [h1] at q; exact q
  | ex c ns ds ρ' => rw [h1] at q; exact q
  | ok r ρ1 =>
    rw [h1] at q
    intro v H' ⟨Hk, w, hI⟩
    obtain ⟨ds, er, k⟩ := opt_postI q
    have vw := hI.view
    cases hd : r.d <;> simp only [range1, hd, reduceCtorEq] at er
    rename_i n
    rw [hd] at vw
    split at er
    · rename_i hz
      cases er
      have hz := of_decide_eq_true hz
      exact ⟨n, by rw [vw.int_eq], hz.1, hz.2, k _ [] H' it_range ⟨Hk, w, hI.pop⟩⟩
    · cases er
theorem tri_range2 (ha : TrE X W a ma) (hb : TrE X W b mb) (hg : Gl X "range") (hm : X.mg "range" = none) (hse : starEach [a, b] X.env = [(false, eval a X.env), (false, eval b X.env)] := by rfl) (hse2 : starEach [b] X.env = [(false, eval b X.env)] := by rfl) (hse1 : starEach [a, b] X.env = (false, eval a X.env) :: starEach [b] X.env := by rfl) :
    TrI X W tg (.Call (.Name "range" p) [a, b] [] pos) (mRange2 ma mb) := by
  intro B ρ τ σ H Q hs q
  refine ⟨iRng2 (tCons (AnyE X a) (tCons (AnyE X b) tNil)), pi_range2 hg hm (pa_cons pe_any (pa_cons pe_any pa_nil hse2) hse1) hse hse2, ?_⟩
  refine two (Post := PostI X.K X.mg B W τ σ Q) ha hb hs q (fun _ _ _ _ h => h) (fun h => h) fun x y ρ' v u H' q' hs' => ?_
  obtain ⟨ds, er, k⟩ := opt_postI q'
  obtain ⟨Hk, w, hI, v1, v2⟩ := st2 hs'
  cases hd : x.d <;> cases hd2 : y.d <;> simp only [range2, hd, hd2, reduceCtorEq] at er
  rename_i i j
  rw [hd] at v1; rw [hd2] at v2
  split at er
  · rename_i hz
    cases er
    obtain ⟨z1, z2⟩ := Bool.and_eq_true_iff.mp hz
    have z1 := of_decide_eq_true z1
    have z2 := of_decide_eq_true z2
    exact ⟨i, j, by rw [v1.int_eq, v2.int_eq], ⟨z1.1, z1.2, z2.1, z2.2⟩, k _ [] H' it_range ⟨Hk, w, hI⟩⟩
  · cases er
/-! ### for -/
def forL (g : Tg) (nb : M Fl) : List D → M Fl
  | [] => pure .nx
  | d :: ds => M.sto (g d) >>= fun _ => nb >>= fun f => match f with
    | .nx => forL g nb ds
    | .ct => forL g nb ds
    | .bk => pure .nx
    | .rt r => pure (.rt r)
def mFor (mi : M (List D)) (g : Tg) (nb : M Fl) : M Fl := mi >>= fun ds => forL g nb ds
theorem get_drop {α : Type} {l : List α} {i : Nat} {x : α} (h : l[i]? = some x) : l.drop i = x :: l.drop (i + 1) := by
  obtain ⟨h1, h2⟩ := List.getElem?_eq_some_iff.mp h
  rw [List.drop_eq_getElem_cons h1, h2]
theorem trs_for {A : List Stmt} {mi : M (List D)} {g : Tg} {nb : M Fl} (hi : TrI X W tg e mi) (hg : TrG X tg g) (hb : TrSs X W A nb) (hp : PassesOwn (model X.prog X.w) X.A X.env X.xe) (hc : X.calm = true) (hs : ∀ x, foldedSetIterable e X.env x = pure x := by intro _; rfl) : TrS X W (.For tg e A [] pos) (mFor mi g nb) := by
  intro B ρ τ σ H D hst q
  refine ⟨tFor (AnyI X tg e) (AnyG X tg) (AnySs X A), ps_for hp hc pi_any pg_any pss_any hs, hi B ρ τ σ H _ hst ?_⟩
  have q : PostS X.K X.mg B W τ D ((mi ρ).then fun ds => forL g nb ds) := q
  cases h1 : mi ρ with
  | er => rw [h1] at q; exact q
  | ex c ns ds ρ' => rw [h1] at q; exact q σ
  | ok items ρ1 =>
    rw [h1] at q
    intro J T H1 ho hs1
    refine ⟨fun i m σ H => m = items.length - i ∧ i ≤ items.length ∧ ∃ ρ, St X.K X.mg B ρ (T ++ τ) σ H ∧ PostS X.K X.mg B W τ D (forL g nb (items.drop i) ρ), ⟨items.length, by simp, by omega, ρ1, hs1, q⟩, ?_⟩
    rintro i m σ2 H2 ⟨rfl, hi, ρ2, hs2, q2⟩
    obtain ⟨o1, o2⟩ := ho i ρ2 [] τ σ2 H2 hs2
    by_cases hlt : i < items.length
    · refine .inr ?_
      have hd := List.getElem?_eq_getElem hlt
      obtain ⟨go, step⟩ := o1 _ hd
      rw [get_drop hd] at q2
      obtain ⟨ρ3, hg3, q3⟩ := sto_post (f := fun _ => nb >>= fun f => match f with
        | .nx => forL g nb (items.drop (i + 1))
        | .ct => forL g nb (items.drop (i + 1))
        | .bk => pure .nx
        | .rt r => pure (.rt r)) q2
      refine ⟨go, fun σ' H' => ∃ ρ', St X.K X.mg B ρ' (T ++ τ) σ' H' ∧ PostS X.K X.mg B W τ D (forL g nb (items.drop (i + 1)) ρ'), fun σ' H' h => ⟨items.length - (i + 1), by omega, rfl, by omega, h⟩, fun x H' hy => ?_⟩
      refine hg B ρ2 ρ3 (T ++ τ) σ2 H' x _ _ (step x H' hy) hg3 fun σ4 H4 hs4 => ?_
      refine hb B ρ3 (T ++ τ) σ4 H4 _ hs4 ?_
      rw [bind_at] at q3
      cases h2 : nb ρ3 with
      | er => rw [h2] at q3; exact q3
      | ex c ns ds ρ' => rw [h2] at q3; exact q3
      | ok f ρ5 =>
        rw [h2] at q3
        cases f with
        | nx => exact fun σ' H' hs' => ⟨ρ5, hs', q3⟩
        | ct => exact fun σ' H' hs' => ⟨ρ5, hs', q3⟩
        | bk => exact fun σ' H' hs' => q3 σ' H' hs'.dropT
        | rt r => exact fun v σ' H' hs' => q3 v σ' H' hs'.under
    · have e : i = items.length := by omega
      subst e
      rw [List.drop_length] at q2
      exact .inl ⟨o2 (Nat.le_refl _), q2 σ2 H2 hs2.dropT⟩
end
end Vy
namespace Vy
open PySem PySem.Spec PyProof.Rows L2
open Evl (Ex)
/-! ### comprehensions -/
def Off (js : List Nat) (σ σ' : L2.St) : Prop := σ'.length = σ.length ∧ ∀ j, j ∉ js → σ'[j]? = σ[j]?
theorem Off.refl {js : List Nat} {σ : L2.St} : Off js σ σ := ⟨rfl, fun _ _ => rfl⟩
theorem off_set {js : List Nat} {i : Nat} {σ : L2.St} {x : Option V} (h : i ∈ js) : Off js σ (σ.set i x) := ⟨by simp, fun j hj => List.getElem?_set_ne (fun (e : i = j) => hj (e ▸ h))⟩
theorem Off.trans {js : List Nat} {σ σ' σ'' : L2.St} (a : Off js σ σ') (b : Off js σ' σ'') : Off js σ σ'' := ⟨b.1.trans a.1, fun j hj => (b.2 j hj).trans (a.2 j hj)⟩
theorem wipe_in {i : Nat} : ∀ {vs : List Nat} {σ : L2.St}, i ∈ vs → i < σ.length → (L2.wipe σ vs)[i]? = some none
  | v :: vs, σ, h, hl => by
    show ((L2.wipe σ vs).set v none)[i]? = some none
    by_cases e : v = i
    · subst e
      rw [List.getElem?_set_self (by rw [wipe_length]; exact hl)]
    · rw [List.getElem?_set_ne e]
      exact wipe_in (by rcases List.mem_cons.mp h with z | z; exact absurd z.symm e; exact z) hl
theorem wipe_off {vs js : List Nat} {σ σ' : L2.St} (h : Off js σ σ') (hs : ∀ j ∈ js, j ∈ vs) : L2.wipe σ' vs = L2.wipe σ vs := by
  apply List.ext_getElem?
  intro i
  by_cases hv : i ∈ vs
  · by_cases hl : i < σ.length
    · rw [wipe_in hv hl, wipe_in hv (by rw [h.1]; exact hl)]
    · rw [List.getElem?_eq_none (by rw [wipe_length, h.1]; omega), List.getElem?_eq_none (by rw [wipe_length]; omega)]
  · rw [wipe_out hv, wipe_out hv]
    exact h.2 i fun z => hv (hs i z)
theorem wipeR_in {i : Nat} : ∀ {vs : List Nat} {ρ : State}, i ∈ vs → ∀ sl, (wipeR ρ vs)[i]? = some sl → sl = .no
  | v :: vs, ρ, h, sl, e => by
    have e : ((wipeR ρ vs).set v .no)[i]? = some sl := e
    by_cases q : v = i
    · subst q
      by_cases hl : v < (wipeR ρ vs).length
      · rw [List.getElem?_set_self hl] at e; cases e; rfl
      · rw [List.getElem?_eq_none (by simp; omega)] at e; cases e
    · rw [List.getElem?_set_ne q] at e
      exact wipeR_in (by rcases List.mem_cons.mp h with z | z; exact absurd z.symm q; exact z) sl e
section
variable {K : PySem.W.Frag} {mg : Str → Option Value} {B : Bs} {H : Hp} {ρ : State} {τ : List (V × R)} {σ : L2.St}
theorem St.wiped {is : List Nat} (h : St K mg B ρ τ σ H) : St K mg B (wipeR ρ is) τ (L2.wipe σ is) H := by
  obtain ⟨Hk, w, h⟩ := h
  exact ⟨Hk, w, h.wipe⟩
theorem St.unwiped {is : List Nat} (h : St K mg B (wipeR ρ is) τ (L2.wipe σ is) H) : St K mg B (wipeR ρ is) τ σ H := by
  obtain ⟨Hk, w, h⟩ := h
  refine ⟨Hk, w, by rw [h.len, wipe_length], h.e0, h.e1, h.fr, h.nk, h.live, fun j x sl e1 e2 => ?_, h.temps⟩
  by_cases hj : j ∈ is
  · rw [wipeR_in hj sl e2]; trivial
  · exact h.slots j x sl (by rw [wipe_out hj]; exact e1) e2
end
def TrGb (X : Cx) (tg : Expr) (f : Tg) (js : List Nat) : Prop := ∀ B ρ ρ' τ σ H v d (Q : L2.St → Hp → Prop), St X.K X.mg B ρ ((v, .cl d) :: τ) σ H → f d ρ = some ρ' → (∀ σ' H', Off js σ σ' → St X.K X.mg B ρ' τ σ' H' → Q σ' H') → ∃ t, PG X tg t ∧ t v σ H Q
section
variable {X : Cx} {W : WX} {e a b tg : Expr} {es : List Expr} {m ma mb : M R} {ms : M (List R)} {i j : Nat} {x y : Str} {pos p p' : Pos}
theorem trb_name (xn : X.N.Nodup) (hi : X.N[i]? = some x := by rfl) (hx : Loc X.env.scope x := by first | exact Or.inl rfl | exact Or.inr rfl) (hf : X.fn x = true ∨ X.env.scope.names.lookup x = some .local := by first | exact .inl rfl | exact .inr rfl) : TrGb X (.Name x pos) (gSet i) [i] :=
  fun B ρ ρ' τ σ H v d Q hs h1 q => ⟨gName i, pg_name xn hi hx hf, q _ _ (off_set (by simp)) (put_st h1 hs)⟩
def TrGsb (X : Cx) (ts : List Expr) (is : List Nat) : Prop := ∀ B ρ ρ' τ σ H vs ds (Q : L2.St → Hp → Prop), (∃ Hk w, StI X.K X.mg B Hk w ρ τ σ H ∧ RepL X.K X.mg Hk vs ds) → gSets is ds ρ = some ρ' → (∀ σ' H', Off is σ σ' → St X.K X.mg B ρ' τ σ' H' → Q σ' H') → ∃ t, PGs X ts t ∧ t vs σ H Q
theorem trsb_nil : TrGsb X [] [] := by
  intro B ρ ρ' τ σ H vs ds Q ⟨Hk, w, hI, hr⟩ h1 q
  refine ⟨gNil, pgs_nil, ?_⟩
  cases hr with
  | nil => cases h1; exact ⟨rfl, q σ H .refl ⟨Hk, w, hI⟩⟩
  | cons _ _ => cases h1
theorem trsb_cons {is : List Nat} {ts : List Expr} (k : TrGsb X ts is) (xn : X.N.Nodup) (hi : X.N[i]? = some x := by rfl) (hx : Loc X.env.scope x := by first | exact Or.inl rfl | exact Or.inr rfl) (hf : X.fn x = true ∨ X.env.scope.names.lookup x = some .local := by first | exact .inl rfl | exact .inr rfl)
    (hs : (assignEach (.Name x pos :: ts) X.env).map (·.2) = assign (.Name x pos) X.env :: (assignEach ts X.env).map (·.2) := by rfl) : TrGsb X (.Name x pos :: ts) (i :: is) := by
  intro B ρ ρ' τ σ H vs ds Q ⟨Hk, w, hI, hr⟩ h1 q
  refine ⟨gCons (gName i) (AnyGs X ts), pgs_cons (pg_name xn hi hx hf) pgs_any hs, ?_⟩
  cases hr with
  | nil => cases h1
  | cons h r =>
    rename_i v d vs ds
    refine ⟨v, vs, rfl, ?_⟩
    obtain ⟨ρ1, h2, h3⟩ := Option.bind_eq_some_iff.mp h1
    rw [put_at h2] at h3
    obtain ⟨w', h'⟩ := (hI.push h).store (i := i)
    refine k B _ ρ' τ _ H vs ds Q ⟨Hk, w', h', r⟩ h3 fun σ' H' o hs' => q σ' H' ?_ hs'
    exact ⟨o.1.trans (by simp), fun j hj => (o.2 j fun z => hj (List.mem_cons_of_mem _ z)).trans (List.getElem?_set_ne fun (e : i = j) => hj (e ▸ List.mem_cons_self))⟩
theorem trb_tup {is : List Nat} {ts : List Expr} {k : Nat} (h : TrGsb X ts is) (hc : X.calm = true) (hn : (assignEach ts X.env).length = is.length := by rfl) (hst : (assignEach ts X.env).findIdx? (·.1) = none := by rfl) : TrGb X (.Tuple ts k pos) (gTupD is) is := by
  intro B ρ ρ' τ σ H v d Q ⟨Hk, w, hI⟩ h1 q
  refine ⟨gTup X.K is.length (AnyGs X ts), pg_tup hc pgs_any hn hst, ?_⟩
  have vw := hI.view
  cases d <;> first | cases h1 | skip
  obtain ⟨a, xs, rfl, ha, ra⟩ := vw.tup hI.e1
  exact ⟨a, xs, rfl, ha, by rw [ra.len]; exact gSets_len h1, h B ρ ρ' τ σ H xs _ Q ⟨Hk, w, hI.pop, ra⟩ h1 q⟩
/-- the tests of a clause -/
def TrP (X : Cx) (W : WX) (ifs : List Expr) (m : M Bool) : Prop := ∀ B ρ τ σ H Q, St X.K X.mg B ρ τ σ H → PostT X.K X.mg B W τ σ Q (m ρ) → ∃ t, PTs X ifs t ∧ t σ H Q
theorem trp_nil : TrP X W [] (pure true) := fun B ρ τ σ H Q hs q => ⟨tYes, pts_nil, q H hs⟩
theorem trp_one {m : M Bool} (h : TrT X W e m) : TrP X W [e] m := fun B ρ τ σ H Q hs q => ⟨AnyT X e, pts_one pt_any, h B ρ τ σ H Q hs q⟩
abbrev WF : WX := fun _ _ _ _ => False
def noEx {α : Type} (m : M α) : M α := fun ρ => match m ρ with
  | .ok a ρ' => .ok a ρ'
  | _ => .er
def lcL (is : List Nat) (g : Tg) (mt : M Bool) (me : M R) : List D → List D → M R
  | [], acc => fun ρ => .ok (.fr (.lst acc)) (wipeR ρ is)
  | d :: ds, acc => fun ρ => match g d (wipeR ρ is) with
    | none => .er
    | some ρ1 => (noEx mt >>= fun b => if b then noEx me >>= fun r => if acc.length < sizeLine then lcL is g mt me ds (acc ++ [r.d]) else M.fail else lcL is g mt me ds acc) ρ1
def mLc (is : List Nat) (mi : M (List D)) (g : Tg) (mt : M Bool) (me : M R) : M R := mi >>= fun ds => lcL is g mt me ds []
abbrev Bk (X : Cx) (scope : Scope) (s : Shared) (H : Hp) (C : Addr) (cl : List (Str × Addr)) (fp : List Addr) : Cx := X.blk s H scope (compEnvC scope cl C X.env) fp
def EvG (X : Cx) (scope : Scope) (tg : Expr) : TG := fun v σ H Q => ∀ s0 H0 C cl fp, AnyG (Bk X scope s0 H0 C cl fp) tg v σ H Q
def EvE (X : Cx) (scope : Scope) (e : Expr) : TE := fun σ H Q => ∀ s0 H0 C cl fp, AnyE (Bk X scope s0 H0 C cl fp) e σ H Q
def EvP (X : Cx) (scope : Scope) (ifs : List Expr) : TT := fun σ H Q => ∀ s0 H0 C cl fp, ∃ t, PTs (Bk X scope s0 H0 C cl fp) ifs t ∧ t σ H Q
theorem lc_read {iter elt : Expr} {ifs : List Expr} {scope : Scope} {is js : List Nat} {mi : M (List D)} {g : Tg} {mt : M Bool} {me : M R} (hi : TrI X W tg iter mi) (hg : ∀ s H C cl fp, TrGb (Bk X scope s H C cl fp) tg g js) (ht : ∀ s H C cl fp, TrP (Bk X scope s H C cl fp) WF ifs mt)
    (he : ∀ s H C cl fp, TrE (Bk X scope s H C cl fp) WF elt me) (hj : ∀ j ∈ js, j ∈ is) {B : Bs} {ρ : State} {τ : List (V × R)} {σ : L2.St} {H : Hp} {Q : VK} (hst : St X.K X.mg B ρ τ σ H) (q : PostE X.K X.mg B W τ σ Q (mLc is mi g mt me ρ)) :
    tLc (AnyI X tg iter) (EvG X scope tg) (EvP X scope ifs) (EvE X scope elt) is σ H Q := by
  refine hi B ρ τ σ H _ hst ?_
  have q : PostE X.K X.mg B W τ σ Q ((mi ρ).then fun ds => lcL is g mt me ds []) := q
  cases h1 : mi ρ with
  | er => rw [h1] at q; exact q
  | ex c ns ds ρ' => rw [h1] at q; exact q
  | ok items ρ1 =>
    rw [h1] at q
    intro J T H1 ho ⟨Hk1, w1, hI1⟩ Dl hD
    have s0 : St X.K X.mg B (wipeR ρ1 is) ((.ref Dl, .fr (.lst [])) :: (T ++ τ)) (L2.wipe σ is) (upd H1 Dl (.lst [])) := ⟨_, _, (hI1.wipe (is := is)).laidO hD ⟨_, upd_same, .nil⟩⟩
    refine ⟨fun i m H => m = items.length - i ∧ i ≤ items.length ∧ ∃ ρ acc, St X.K X.mg B (wipeR ρ is) ((.ref Dl, .fr (.lst acc)) :: (T ++ τ)) (L2.wipe σ is) H ∧ PostE X.K X.mg B W τ σ Q (lcL is g mt me (items.drop i) acc ρ),
      ⟨items.length, by simp, by omega, ρ1, [], s0, q⟩, ?_⟩
    rintro i m H2 ⟨rfl, hi, ρ2, acc, hs2, q2⟩
    obtain ⟨o1, o2⟩ := ho i (wipeR ρ2 is) [(.ref Dl, .fr (.lst acc))] τ (L2.wipe σ is) H2 hs2
    by_cases hlt : i < items.length
    · refine .inr ?_
      have hd := List.getElem?_eq_getElem hlt
      obtain ⟨go, step⟩ := o1 _ hd
      rw [get_drop hd] at q2
      have e0 : lcL is g mt me (items[i] :: items.drop (i + 1)) acc ρ2 = (match g items[i] (wipeR ρ2 is) with
        | none => .er
        | some ρ1 => (noEx mt >>= fun b => if b then noEx me >>= fun r => if acc.length < sizeLine then lcL is g mt me (items.drop (i + 1)) (acc ++ [r.d]) else M.fail else lcL is g mt me (items.drop (i + 1)) acc) ρ1) := rfl
      rw [e0] at q2
      cases hgd : g items[i] (wipeR ρ2 is) with
      | none => rw [hgd] at q2; exact q2.elim
      | some ρ3 =>
        rw [hgd] at q2
        have q2 : PostE X.K X.mg B W τ σ Q ((noEx mt ρ3).then fun b => if b then noEx me >>= fun r => if acc.length < sizeLine then lcL is g mt me (items.drop (i + 1)) (acc ++ [r.d]) else M.fail else lcL is g mt me (items.drop (i + 1)) acc) := q2
        refine ⟨go, fun H' => ∃ ρ' acc', St X.K X.mg B (wipeR ρ' is) ((.ref Dl, .fr (.lst acc')) :: (T ++ τ)) (L2.wipe σ is) H' ∧ PostE X.K X.mg B W τ σ Q (lcL is g mt me (items.drop (i + 1)) acc' ρ'), fun H' h => ⟨items.length - (i + 1), by omega, rfl, by omega, h⟩, fun x H' hy => ?_⟩
        have hs3 := step x H' hy
        intro s0 H0 C cl fp
        refine hg s0 H0 C cl fp B _ ρ3 ((.ref Dl, .fr (.lst acc)) :: (T ++ τ)) (L2.wipe σ is) H' x _ _ hs3 hgd fun σ4 H4 off hs4 => ?_
        have ew : L2.wipe σ4 is = L2.wipe σ is := by
          rw [wipe_off off hj]
          exact wipe_off (js := is) ⟨wipe_length σ is, fun j hj => wipe_out hj⟩ (fun _ z => z)
        refine ⟨ew, ?_⟩
        intro s0 H0 C cl fp
        refine ht s0 H0 C cl fp B ρ3 _ σ4 H4 _ hs4 ?_
        cases h2 : mt ρ3 with
        | er => rw [show noEx mt ρ3 = .er by unfold noEx; rw [h2]] at q2; exact q2.elim
        | ex c ns ds ρ' => rw [show noEx mt ρ3 = .er by unfold noEx; rw [h2]] at q2; exact q2.elim
        | ok b ρ5 =>
          rw [show noEx mt ρ3 = .ok b ρ5 by unfold noEx; rw [h2]] at q2
          intro H5 hs5
          cases b with
          | false =>
            rw [if_neg (by decide)]
            have hs6 := hs5.wiped (is := is)
            rw [ew] at hs6
            exact ⟨ρ5, acc, hs6, q2⟩
          | true =>
            rw [if_pos rfl]
            intro s0 H0 C cl fp
            refine he s0 H0 C cl fp B ρ5 _ σ4 H5 _ hs5 ?_
            have q3 : PostE X.K X.mg B W τ σ Q ((noEx me ρ5).then fun r => if acc.length < sizeLine then lcL is g mt me (items.drop (i + 1)) (acc ++ [r.d]) else M.fail) := q2
            cases h3 : me ρ5 with
            | er => rw [show noEx me ρ5 = .er by unfold noEx; rw [h3]] at q3; exact q3.elim
            | ex c ns ds ρ' => rw [show noEx me ρ5 = .er by unfold noEx; rw [h3]] at q3; exact q3.elim
            | ok r ρ6 =>
              rw [show noEx me ρ5 = .ok r ρ6 by unfold noEx; rw [h3]] at q3
              intro v H6 ⟨Hk, w, hI⟩
              obtain ⟨Hk', ek, hI'⟩ := hI.clean
              have rv : Rep X.K X.mg Hk' v r.d := hI'.temps.1
              obtain ⟨p, ep, ⟨xs, hx, rx⟩, hm⟩ := hI'.pop.mutT (d' := .lst (acc ++ [r.d]))
              cases ep
              by_cases hz : acc.length < sizeLine
              · have q4 : PostE X.K X.mg B W τ σ Q ((if acc.length < sizeLine then lcL is g mt me (items.drop (i + 1)) (acc ++ [r.d]) else M.fail : M R) ρ6) := q3
                rw [if_pos hz] at q4
                refine ⟨xs, hx, by rw [rx.len]; exact hz, ρ6, acc ++ [r.d], ?_, q4⟩
                have hI7 := hm (.lst (xs ++ [v])) ⟨_, upd_same, rx.app (.cons rv .nil)⟩
                have hs8 : St X.K X.mg B (wipeR ρ6 is) ((.ref Dl, .fr (.lst (acc ++ [r.d]))) :: (T ++ τ)) (L2.wipe σ4 is) (upd H6 Dl (.lst (xs ++ [v]))) := St.wiped ⟨Hk', w, hI7⟩
                rw [ew] at hs8
                exact hs8
              · have q4 : PostE X.K X.mg B W τ σ Q ((if acc.length < sizeLine then lcL is g mt me (items.drop (i + 1)) (acc ++ [r.d]) else M.fail : M R) ρ6) := q3
                rw [if_neg hz] at q4
                exact q4.elim
    · have e : i = items.length := by omega
      subst e
      rw [List.drop_length] at q2
      exact .inl ⟨o2 (Nat.le_refl _), q2 _ _ hs2.unwiped.under⟩
theorem pe_evE {scope : Scope} {s : Shared} {H : Hp} {C : Addr} {cl : List (Str × Addr)} {fp : List Addr} : PE (Bk X scope s H C cl fp) e (EvE X scope e) := ⟨fun pins s' σ H' Q I h => pe_any.run pins s' σ H' Q I (h s H C cl fp)⟩
theorem pg_evG {scope : Scope} {s : Shared} {H : Hp} {C : Addr} {cl : List (Str × Addr)} {fp : List Addr} : PG (Bk X scope s H C cl fp) tg (EvG X scope tg) := ⟨fun pins s' σ H' v u Q I r h => pg_any.run pins s' σ H' v u Q I r (h s H C cl fp)⟩
theorem pt_evP {scope : Scope} {s : Shared} {H : Hp} {C : Addr} {cl : List (Str × Addr)} {fp : List Addr} {ifs : List Expr} : PTs (Bk X scope s H C cl fp) ifs (EvP X scope ifs) := ⟨fun pins s' σ H' Q I h => by
  obtain ⟨t, ht, h⟩ := h s H C cl fp
  exact ht.run pins s' σ H' Q I h⟩
theorem tr_lc {iter elt : Expr} {ifs : List Expr} {scope : Scope} {own : List (Str × Nat)} {js : List Nat} {mi : M (List D)} {g : Tg} {mt : M Bool} {me : M R} (ok : BlkOk X.N X.env.scope scope own) (hc : X.calm = true) (xn : X.N.Nodup) (hi : TrI X W tg iter mi)
    (hg : ∀ s H C cl fp, TrGb (Bk X scope s H C cl fp) tg g js) (ht : ∀ s H C cl fp, TrP (Bk X scope s H C cl fp) WF ifs mt) (he : ∀ s H C cl fp, TrE (Bk X scope s H C cl fp) WF elt me) (hj : ∀ j ∈ js, j ∈ own.map (·.2) := by decide) (hs : ∀ x, foldedSetIterable iter X.env x = pure x := by intro _; rfl) :
    TrE X W (.ListComp elt [⟨tg, iter, ifs, 0⟩] scope pos) (mLc (own.map (·.2)) mi g mt me) := fun B ρ τ σ H Q hst q =>
  ⟨_, pe_lc hc xn pi_any ok (fun _ _ _ _ _ => pg_evG) (fun _ _ _ _ _ => pt_evP) (fun _ _ _ _ _ => pe_evE) hs, lc_read hi hg ht he hj hst q⟩
/-- name = [..] -/
theorem trs_setLc {iter elt : Expr} {ifs : List Expr} {scope : Scope} {own : List (Str × Nat)} {js : List Nat} {mi : M (List D)} {g : Tg} {mt : M Bool} {me : M R} {spos : Pos} (ok : BlkOk X.N X.env.scope scope own) (hc : X.calm = true) (xn : X.N.Nodup) (hi : TrI X W tg iter mi)
    (hg : ∀ s H C cl fp, TrGb (Bk X scope s H C cl fp) tg g js) (ht : ∀ s H C cl fp, TrP (Bk X scope s H C cl fp) WF ifs mt) (he : ∀ s H C cl fp, TrE (Bk X scope s H C cl fp) WF elt me) (hy : X.N[i]? = some x := by rfl) (hyl : X.env.scope.names.lookup x = some .local := by rfl)
    (hsw : swapsWith (.ListComp elt [⟨tg, iter, ifs, 0⟩] scope pos) (some (.Name x p')) spos.line X.env = pure true := by exact sw_true rfl rfl rfl (by decide +kernel)) (hj : ∀ j ∈ js, j ∈ own.map (·.2) := by decide) (hs : ∀ x, foldedSetIterable iter X.env x = pure x := by intro _; rfl) :
    TrS X W (.Assign [.Name x p'] (.ListComp elt [⟨tg, iter, ifs, 0⟩] scope pos) spos) (mSet i (mLc (own.map (·.2)) mi g mt me)) := by
  intro B ρ τ σ H D hst q
  refine ⟨_, ps_setLc hc xn hy hyl hsw pi_any ok (fun _ _ _ _ _ => pg_evG) (fun _ _ _ _ _ => pt_evP) (fun _ _ _ _ _ => pe_evE) hs, ?_⟩
  show tLc (AnyI X tg iter) (EvG X scope tg) (EvP X scope ifs) (EvE X scope elt) (own.map (·.2)) σ H (fun v H1 => gName i v σ H1 D.nx)
  refine lc_read hi hg ht he hj hst ?_
  have q : PostS X.K X.mg B W τ D ((mLc (own.map (·.2)) mi g mt me ρ).then fun r => M.sto (put i r) >>= fun _ => pure .nx) := q
  cases h1 : mLc (own.map (·.2)) mi g mt me ρ with
  | er => rw [h1] at q; exact q
  | ex c ns ds ρ' => rw [h1] at q; exact q σ
  | ok r ρ1 =>
    rw [h1] at q
    intro v H' hs'
    obtain ⟨ρ2, h2, q⟩ := sto_post q
    exact q _ _ (put_st h2 hs')
end
end Vy
namespace Vy
open PySem PySem.Spec PyProof.Rows L2
open Evl (Ex)
/-! ### defs -/
/-- a def at f keeps sp; nothing around prints -/
structure FnG (P : Program) (w : World) (K : PySem.W.Frag) (mg : Str → Option Value) (base : Heap) (k : Nat) (f : Addr) (fd : FuncData) (ps : List Str) (sp : Sp) : Prop where
  len : ∀ vs H Q E, sp vs H Q E → vs.length = ps.length
  run : ∀ (A : Around) (outer : List Env) (s : Shared) (H : Hp) (args : Args) (us : List Value) (vs : List V) (Q : VK) (E : XK), Room k A → A.guards = some [] → Env0 P w K mg base A outer s H → BindsTo s fd args (ps.zip us) → Vals vs us → sp vs H Q E →
    codeAny (model P w) A (.call (.ref f) args) (CR (L2.CX P w) outer P w H s Q E) s
/-- a def on data -/
abbrev Fn := State → Res R
def PostF (K : PySem.W.Frag) (mg : Str → Option Value) (B : Bs) (Q : VK) (E : XK) : Res R → Prop
  | .ok r ρ' => ∀ v σ' H', St K mg B ρ' [(v, r)] σ' H' → Q v H'
  | .ex c ns ds ρ' => ∀ C d σ' H', St K mg B ρ' [] σ' H' → ExAt K mg H' c ns ds C d → E (.ref C) d H'
  | .er => False
def spD (K : PySem.W.Frag) (mg : Str → Option Value) (F : Fn) (n : Nat) : Sp := fun vs H Q E => ∃ (B : Bs) (ρ : State) (w : Addr → Option Own), vs.length = n ∧ B.H0 = H ∧ StI K mg B B.Hk0 w ρ [] (vs.map some) H ∧ PostF K mg B Q E (F ρ)
def bodyF (n : Nat) (m : M Fl) : Fn := fun args => match m (args ++ List.replicate (n - args.length) .no) with
  | .ok .nx ρ' => .ok (.cl .non) ρ'
  | .ok (.rt r) ρ' => .ok r ρ'
  | .ok _ _ => .er
  | .ex c ns ds ρ' => .ex c ns ds ρ'
  | .er => .er
section
variable {K : PySem.W.Frag} {mg : Str → Option Value} {B : Bs} {Hk Hk2 H H2 : Hp} {w w2 : Addr → Option Own} {ρ ρ2 : State} {τ : List (V × R)} {σ σ2 : L2.St} {v : V} {r : R} {i : Nat}
theorem StI.pad (h : StI K mg B Hk w ρ τ σ H) (n : Nat) : StI K mg B Hk w (ρ ++ List.replicate n .no) τ (σ ++ List.replicate n none) H := by
  refine ⟨by simp [h.len], h.e0, h.e1, h.fr, h.nk, h.live, fun j x sl e1 e2 => ?_, h.temps⟩
  by_cases hj : j < ρ.length
  · rw [List.getElem?_append_left hj] at e2
    rw [List.getElem?_append_left (by rw [← h.len]; exact hj)] at e1
    exact h.slots j x sl e1 e2
  · rw [List.getElem?_append_right (by omega)] at e2
    obtain ⟨hl, e3⟩ := List.getElem?_eq_some_iff.mp e2
    rw [List.getElem_replicate] at e3
    subst e3
    trivial
/-- a table of code objects -/
def IsTab (K : PySem.W.Frag) (a : Addr) : Prop := ∃ x ∈ LawTabs K, x.1 = a
theorem LiveT.no_tab (h : LiveT K B H) {p : Addr} (n : NT H p) : ¬ IsTab K p := by
  rintro ⟨x, hx, e⟩
  exact h.not_tab n hx e
theorem LiveT.sub (h : LiveT K B H) (nk : ∀ a, B.H0 a ≠ none → B.Hk0 a = none → Hk a = none ∨ Fz (H a)) {io : Addr → Prop} (hio : ∀ a, IsTab K a → io a) : LiveT K ⟨Hk, H, io⟩ H :=
  ⟨fun _ z => z, h.tb, fun x hx => ⟨h.lv _ (h.t0 x hx).1, (nk _ (h.t0 x hx).1 (h.t0 x hx).2.1).resolve_right fun z => by
    obtain ⟨ps, e⟩ := h.tab hx
    rw [e] at z
    simp [Fz] at z, hio _ ⟨x, hx, rfl⟩⟩, h.ta⟩
theorem LiveT.fz_tab (h : LiveT K B H) {p : Addr} (t : IsTab K p) : ¬ Fz (H p) := by
  obtain ⟨x, hx, rfl⟩ := t
  obtain ⟨ps, e⟩ := h.tab hx
  rw [e]
  simp [Fz]
/-- nk behind a call -/
theorem nk_call {B B' : Bs} {Hk2 H2 : Hp} (nk0 : ∀ a, B.H0 a ≠ none → B.Hk0 a = none → B'.Hk0 a = none ∨ Fz (B'.H0 a)) (lv : ∀ a, B.H0 a ≠ none → B'.H0 a ≠ none) (fr : ∀ a o, B'.H0 a = some o → ¬ B'.io a → H2 a = some o) (io : ∀ a, B'.io a → ¬ Fz (B'.H0 a))
    (nk : ∀ a, B'.H0 a ≠ none → B'.Hk0 a = none → Hk2 a = none ∨ Fz (H2 a)) : ∀ a, B.H0 a ≠ none → B.Hk0 a = none → Hk2 a = none ∨ Fz (H2 a) := fun a n0 k0 => by
  rcases nk0 a n0 k0 with z | z
  · exact nk a (lv a n0) z
  · have ni : ¬ B'.io a := fun t => io a t z
    rcases id z with ⟨φ, e⟩ | ⟨fs, e⟩
    · exact .inr (.inl ⟨φ, fr a _ e ni⟩)
    · exact .inr (.inr ⟨fs, fr a _ e ni⟩)
theorem StI.nk_at {q : Addr} (c : StI K mg B Hk w ρ τ σ H) (b : NT B.H0 q) (k : B.Hk0 q = none) (ni : ¬ B.io q) : Hk q = none := (c.nk q b.there k).resolve_right fun z => by
  cases hq : B.H0 q with
  | none => exact b.there hq
  | some u =>
    rw [c.fr q u hq ni] at z
    exact b.fz (by rw [hq]; exact z)
theorem LiveT.io_tab (h : LiveT K B H) {p : Addr} (t : IsTab K p) : B.io p := by
  obtain ⟨x, hx, rfl⟩ := t
  exact (h.t0 x hx).2.2
/-- behind a call of a def that changes nothing -/
theorem StI.after0 {B' : Bs} (h : StI K mg B Hk w ρ τ σ H) (hk : B'.Hk0 = Hk) (hh : B'.H0 = H) (hio : ∀ a, B'.io a → IsTab K a) (c : StI K mg B' Hk2 w2 ρ2 [(v, r)] σ2 H2) : ∃ w', StI K mg B Hk2 w' ρ ((v, r) :: τ) σ H2 := by
  subst hk hh
  have base : ∀ w', (∀ q, B'.H0 q ≠ none → w' q = w q) → TempOk K mg B Hk2 H2 w' τ.length v r → StI K mg B Hk2 w' ρ ((v, r) :: τ) σ H2 := fun w' hw ht => by
    have keep : ∀ q y, w q = some y → NT B'.H0 q → B'.Hk0 q = none → w' q = some y ∧ Hk2 q = none ∧ ∀ u, B'.H0 q = some u → H2 q = some u := fun q y a b c' => ⟨by rw [hw q b.there]; exact a, c.nk_at b c' fun z => h.live.no_tab b (hio q z), fun u hu => c.fr q u hu fun z => h.live.no_tab b (hio q z)⟩
    exact ⟨h.len, h.e0.trans c.e0, c.e1, fun a u e n => c.fr a u (h.fr a u e n) fun z => n (h.live.io_tab (hio a z)), nk_call h.nk h.live.lv c.fr (fun a z => h.live.fz_tab (hio a z)) c.nk, ⟨fun a n0 => c.live.lv a (h.live.lv a n0), c.live.tb, h.live.t0, c.live.ta⟩, fun j x sl e1 e2 => (h.slots j x sl e1 e2).up c.e0 fun q a b d => keep q _ a b d, ht, h.temps.up c.e0 fun n q _ a b d => keep q _ a b d⟩
  cases r with
  | cl d => exact ⟨w, base w (fun _ _ => rfl) c.temps.1⟩
  | fr d =>
    obtain ⟨⟨p, rfl, hw, hkp, h0, hc⟩, _⟩ := c.temps
    have hB0 : B.H0 p = none := by
      cases q : B.H0 p with
      | none => rfl
      | some u => exact absurd h0 (h.live.lv p (by rw [q]; simp))
    exact ⟨fun q => if q = p then some (.t τ.length) else w q, base _ (fun q hq => if_neg (by rintro rfl; exact hq h0)) ⟨p, rfl, if_pos rfl, hkp, hB0, hc⟩⟩
/-- behind a call of a def that changes what slot i has -/
theorem StI.after1 {B' : Bs} {p : Addr} {d0 d1 : D} {sl sl' : Slot} (h : StI K mg B Hk w ρ τ σ H) (hk : B'.Hk0 = Hk) (hh : B'.H0 = H) (hio : ∀ a, B'.io a ↔ a = p ∨ IsTab K a) (hp : σ[i]? = some (some (.ref p))) (hr : ρ[i]? = some sl) (hsl : sl = .ow d0 ∨ sl = .io d0) (hput : sl.put d1 = some sl')
    (c : StI K mg B' Hk2 w2 ρ2 [(v, r)] σ2 H2) (hc0 : Cont K mg Hk2 H2 p d1) (hkp : Hk2 p = none) : ∃ w', StI K mg B Hk2 w' (ρ.set i sl') ((v, r) :: τ) σ H2 := by
  subst hk hh
  obtain ⟨x, hx, hs⟩ := slot_at h hr
  rw [hp] at hx; cases hx
  -- what the slot owns
  have own : w p = some (.s i) ∧ B'.Hk0 p = none ∧ (B.H0 p = none ∨ B.io p) ∧ (∃ u, B'.H0 p = some u) ∧ ¬ Fz (B'.H0 p) ∧ ∀ w', w' p = some (.s i) → SlotOk K mg B Hk2 H2 w' i (some (.ref p)) sl' := by
    rcases hsl with rfl | rfl
    · obtain ⟨q, e, a1, a2, a3, a4⟩ := hs
      cases e
      cases hput
      exact ⟨a1, a2, .inl a3, a4.some, a4.nt.fz, fun w' hw' => ⟨p, rfl, hw', hkp, a3, hc0⟩⟩
    · obtain ⟨q, e, a1, a2, a3, a4⟩ := hs
      cases e
      cases hput
      exact ⟨a1, a2, .inr a3, a4.some, a4.nt.fz, fun w' hw' => ⟨p, rfl, hw', hkp, a3, hc0⟩⟩
  obtain ⟨hw, hk0, hown, ⟨u0, hu0⟩, hfz, hslot⟩ := own
  have base : ∀ w', (∀ q, B'.H0 q ≠ none → w' q = w q) → TempOk K mg B Hk2 H2 w' τ.length v r → StI K mg B Hk2 w' (ρ.set i sl') ((v, r) :: τ) σ H2 := fun w' hw' ht => by
    have keep : ∀ q y, y ≠ Own.s i → w q = some y → NT B'.H0 q → B'.Hk0 q = none → w' q = some y ∧ Hk2 q = none ∧ ∀ u, B'.H0 q = some u → H2 q = some u := fun q y ny a b c' => by
      have ne : q ≠ p := by rintro rfl; rw [hw] at a; cases a; exact ny rfl
      exact ⟨by rw [hw' q b.there]; exact a, c.nk_at b c' fun z => ((hio q).mp z).elim ne (h.live.no_tab b), fun u hu => c.fr q u hu fun z => ((hio q).mp z).elim ne (h.live.no_tab b)⟩
    refine ⟨by simp [h.len], h.e0.trans c.e0, c.e1, fun a u e n => ?_, nk_call h.nk h.live.lv c.fr (fun a z => ((hio a).mp z).elim (fun e => by rw [e]; exact hfz) h.live.fz_tab) c.nk, ⟨fun a n0 => c.live.lv a (h.live.lv a n0), c.live.tb, h.live.t0, c.live.ta⟩, fun j x s e1 e2 => ?_, ht, h.temps.up c.e0 fun n q _ a b d => keep q _ (by simp) a b d⟩
    · have ne : a ≠ p := by
        rintro rfl
        rcases hown with z | z
        · rw [z] at e; cases e
        · exact n z
      exact c.fr a u (h.fr a u e n) fun z => ((hio a).mp z).elim ne fun z => n (h.live.io_tab z)
    · by_cases hj : i = j
      · subst hj
        rw [List.getElem?_set_self (List.getElem?_eq_some_iff.mp hr).1] at e2
        cases e2
        rw [hp] at e1; cases e1
        exact hslot w' (by rw [hw' p (by rw [hu0]; simp)]; exact hw)
      · rw [List.getElem?_set_ne hj] at e2
        exact (h.slots j x s e1 e2).up c.e0 fun q a b d => keep q _ (fun z => by cases z; exact hj rfl) a b d
  cases r with
  | cl d => exact ⟨w, base w (fun _ _ => rfl) c.temps.1⟩
  | fr d =>
    obtain ⟨⟨q0, rfl, hw2, hkq, h0, hc⟩, _⟩ := c.temps
    have hB0 : B.H0 q0 = none := by
      cases q : B.H0 q0 with
      | none => rfl
      | some u => exact absurd h0 (h.live.lv q0 (by rw [q]; simp))
    exact ⟨fun q => if q = q0 then some (.t τ.length) else w q, base _ (fun q hq => if_neg (by rintro rfl; exact hq h0)) ⟨q0, rfl, if_pos rfl, hkq, hB0, hc⟩⟩
/-- the same where an exception leaves: nothing pending -/
theorem StI.gone0 {B' : Bs} (h : StI K mg B Hk w ρ τ σ H) (hk : B'.Hk0 = Hk) (hh : B'.H0 = H) (hio : ∀ a, B'.io a → IsTab K a) (c : StI K mg B' Hk2 w2 ρ2 [] σ2 H2) : StI K mg B Hk2 w ρ [] σ H2 := by
  subst hk hh
  have keep : ∀ q y, w q = some y → NT B'.H0 q → B'.Hk0 q = none → w q = some y ∧ Hk2 q = none ∧ ∀ u, B'.H0 q = some u → H2 q = some u := fun q y a b c' => ⟨a, c.nk_at b c' fun z => h.live.no_tab b (hio q z), fun u hu => c.fr q u hu fun z => h.live.no_tab b (hio q z)⟩
  exact ⟨h.len, h.e0.trans c.e0, c.e1, fun a u e n => c.fr a u (h.fr a u e n) fun z => n (h.live.io_tab (hio a z)), nk_call h.nk h.live.lv c.fr (fun a z => h.live.fz_tab (hio a z)) c.nk, ⟨fun a n0 => c.live.lv a (h.live.lv a n0), c.live.tb, h.live.t0, c.live.ta⟩, fun j x sl e1 e2 => (h.slots j x sl e1 e2).up c.e0 fun q a b d => keep q _ a b d, trivial⟩
theorem rep_slots {B' : Bs} {w' : Addr → Option Own} {vs : List V} {ds : List D} (r : RepL K mg Hk vs ds) {i : Nat} {x : Option V} {sl : Slot} (e1 : (vs.map some)[i]? = some x) (e2 : (ds.map Slot.va)[i]? = some sl) : SlotOk K mg B' Hk H w' i x sl := by
  rw [List.getElem?_map] at e1 e2
  obtain ⟨v, hv, rfl⟩ := Option.map_eq_some_iff.mp e1
  obtain ⟨d, hd, rfl⟩ := Option.map_eq_some_iff.mp e2
  obtain ⟨v', hv', rv⟩ := r.get hd
  rw [hv] at hv'; cases hv'
  exact ⟨v, rfl, rv⟩
end
def liftF (F : Fn) (args : State) : M R := fun ρ => match F args with
  | .ok r _ => .ok r ρ
  | .ex c ns ds _ => .ex c ns ds ρ
  | .er => .er
def mCall (F : Fn) (ms : M (List R)) : M R := ms >>= fun rs => liftF F (rs.map fun r => .va r.d)
theorem passF {X : Cx} : ∀ σ, PassesAt (L2.CX X.prog X.w) X σ (WE WF σ) := fun σ pins H s e s' I h => by
  obtain ⟨_, _, _, _, _, _, _, _, _, _, _, _, z⟩ := h
  exact z.elim
section
variable {X : Cx} {W : WX} {e a b tg : Expr} {es : List Expr} {m ma mb : M R} {ms : M (List R)} {i j : Nat} {x y : Str} {pos p p' : Pos} {k j' : Nat} {f : Addr} {fd : FuncData} {ps : List Str} {F : Fn}
theorem run_g {pins : List (Addr × Obj)} {σ : L2.St} {H : Hp} {s : Shared} {Q : VK} {us : List Value} {vs : List V} {sp : Sp} {E : L2.St → XK} (G : FnG X.prog X.w X.K X.mg X.base k f fd ps sp) (xr : XR k X) (hb : Binds X.K fd ps []) (hx : PassesAt (L2.CX X.prog X.w) X σ (E σ))
    (I : Inv X pins σ H s) (r : Vals vs us) (h : sp vs H Q (E σ)) : wpAny (model X.prog X.w) X.A (call (.ref f) us) (EP X pins σ Q) X.xe s := by
  have hl : us.length = ps.length := by
    rw [← r.length]
    exact G.len _ _ _ _ h
  have bd := hb s us I.kIn (by simpa using hl)
  simp only [List.append_nil] at bd
  refine wpAny_call (codeAny_mono (G.run _ _ s H _ us vs Q (E σ) xr.room xr.gd I.env0 bd r h) ?_)
  intro res s' hq
  match res, hq with
  | .error e, hq => exact hx pins H s e s' I hq
  | .ok (.ret u), hq => exact I.after hq
  | .ok .next, hq => exact hq.elim
  | .ok .brk, hq => exact hq.elim
  | .ok .cont, hq => exact hq.elim
def tCallG (sp : Sp) (E : L2.St → XK) (t : TA) : TE := fun σ H Q => t σ H fun vs H1 => sp vs H1 Q (E σ)
theorem pe_callG {sp : Sp} {E : L2.St → XK} {t : TA} (G : FnG X.prog X.w X.K X.mg X.base k f fd ps sp) (xr : XR k X) (hg : Gl X x) (hm : X.mg x = some (.ref f)) (hk : PySem.W.keepIn X.K (.ref f) = true) (hb : Binds X.K fd ps []) (hx : ∀ σ, PassesAt (L2.CX X.prog X.w) X σ (E σ)) (ha : PA X (e :: es) t)
    (hdb : (x == ("__debug__" : Str)) = false := by decide) (he : starEach (e :: es) X.env = (false, eval e X.env) :: starEach es X.env := by rfl) (hpl : (backTo pos (starEach es X.env)).any (·.1) = false := by rfl) : PE X (.Call (.Name x p) (e :: es) [] pos) (tCallG sp E t) := by
  constructor
  intro pins s σ H Q I h
  refine wpAny_Call_Name_kw (ld_glob I hg hm (PySem.W.callWith_K (h₀ := X.base) I.ok.mod.kin hk (thn (ha.run pos pins s σ H _ I h) ?_) he hpl) hdb)
  rintro us s1 ⟨vs, H1, I1, r, q⟩
  exact ⟨I1.kIn, run_g G xr hb (hx σ) I1 r q⟩
theorem pe_callG0 {sp : Sp} {E : L2.St → XK} (G : FnG X.prog X.w X.K X.mg X.base k f fd ps sp) (xr : XR k X) (hg : Gl X x) (hm : X.mg x = some (.ref f)) (hk : PySem.W.keepIn X.K (.ref f) = true) (hb : Binds X.K fd ps []) (hx : ∀ σ, PassesAt (L2.CX X.prog X.w) X σ (E σ))
    (hdb : (x == ("__debug__" : Str)) = false := by decide) : PE X (.Call (.Name x p) [] [] pos) (tCallG sp E tNil) := by
  constructor
  intro pins s σ H Q I h
  exact wpAny_Call_Name_kw (ld_glob I hg hm (PySem.W.callWith_K0 I.kIn hk (run_g (us := []) G xr hb (hx σ) I .nil h)) hdb)
/-- at the call, the arguments by value -/
theorem call_ok {n : Nat} {B : Bs} {ρ : State} {τ : List (V × R)} {σ : L2.St} {H : Hp} {Q : VK} {vs : List V} {rs : List R} (hl : vs.length = rs.length) (hn : vs.length = n) (hs : St X.K X.mg B ρ ((vs.zip rs).reverse ++ τ) σ H)
    (q : PostE X.K X.mg B W τ σ Q (liftF F (rs.map fun r => .va r.d) ρ)) : spD X.K X.mg F n vs H Q (WE W σ) := by
  obtain ⟨Hk, w, hI⟩ := hs
  obtain ⟨Hk', _, h', rr⟩ := clean_args hl hI
  refine ⟨⟨Hk', H, IsTab X.K⟩, (rs.map R.d).map Slot.va, fun _ => none, hn, rfl, ⟨by simp [hl], fun _ _ z => z, h'.e1, fun _ _ z _ => z, fun _ _ z => .inl z, h'.live.sub h'.nk (fun _ z => z), fun i x sl e1 e2 => rep_slots rr e1 e2, trivial⟩, ?_⟩
  have e0 : (rs.map fun r => Slot.va r.d) = (rs.map R.d).map Slot.va := by rw [List.map_map]; rfl
  rw [e0] at q
  unfold liftF at q
  cases h1 : F ((rs.map R.d).map Slot.va) with
  | er => rw [h1] at q; exact q
  | ok r ρf =>
    rw [h1] at q
    rintro v σ' H' ⟨Hk2, w2, c⟩
    obtain ⟨w', h2⟩ := h'.after0 rfl rfl (fun _ z => z) c
    exact q v H' ⟨Hk2, w', h2⟩
  | ex c ns ds ρf =>
    rw [h1] at q
    rintro C d σ' H' ⟨Hk2, w2, c⟩ hx
    exact q C d H' ⟨Hk2, w, h'.gone0 rfl rfl (fun _ z => z) c⟩ hx
theorem tr_call (G : FnG X.prog X.w X.K X.mg X.base k f fd ps (spD X.K X.mg F (es.length + 1))) (xr : XR k X) (pw : ∀ σ, PassesAt (L2.CX X.prog X.w) X σ (WE W σ)) (hg : Gl X x) (hm : X.mg x = some (.ref f)) (hk : PySem.W.keepIn X.K (.ref f) = true) (hb : Binds X.K fd ps []) (ha : TrA X W (e :: es) ms)
    (hlen : ∀ ρ rs ρ', ms ρ = .ok rs ρ' → rs.length = es.length + 1)
    (hdb : (x == ("__debug__" : Str)) = false := by decide) (he : starEach (e :: es) X.env = (false, eval e X.env) :: starEach es X.env := by rfl) (hpl : (backTo pos (starEach es X.env)).any (·.1) = false := by rfl) : TrE X W (.Call (.Name x p) (e :: es) [] pos) (mCall F ms) := by
  intro B ρ τ σ H Q hs q
  refine ⟨tCallG (spD X.K X.mg F (es.length + 1)) (WE W) (AnyA X (e :: es)), pe_callG G xr hg hm hk hb pw pa_any hdb he hpl, ha B ρ τ σ H _ hs ?_⟩
  have q : PostE X.K X.mg B W τ σ Q ((ms ρ).then fun rs => liftF F (rs.map fun r => .va r.d)) := q
  cases h1 : ms ρ with
  | er => rw [h1] at q; exact q
  | ex c ns ds ρ' => rw [h1] at q; exact q
  | ok rs ρ1 =>
    rw [h1] at q
    intro vs H' hl hs'
    exact call_ok hl (by rw [hl]; exact hlen _ _ _ h1) hs' q
theorem tr_call0 (G : FnG X.prog X.w X.K X.mg X.base k f fd ps (spD X.K X.mg F 0)) (xr : XR k X) (pw : ∀ σ, PassesAt (L2.CX X.prog X.w) X σ (WE W σ)) (hg : Gl X x) (hm : X.mg x = some (.ref f)) (hk : PySem.W.keepIn X.K (.ref f) = true) (hb : Binds X.K fd ps [])
    (hdb : (x == ("__debug__" : Str)) = false := by decide) : TrE X W (.Call (.Name x p) [] [] pos) (mCall F mNil) := by
  intro B ρ τ σ H Q hs q
  exact ⟨tCallG (spD X.K X.mg F 0) (WE W) tNil, pe_callG0 G xr hg hm hk hb pw hdb, call_ok (rs := []) (vs := []) rfl rfl hs q⟩
/-- the first argument a name whose thing the callee changes -/
def ownD : Option Slot → Option D
  | some (.ow d) => some d
  | some (.io d) => some d
  | _ => none
def liftIO (i : Nat) (F : Fn) (args : State) : M R := fun ρ => match ρ[i]? with
  | none => .er
  | some sl => match ownD (some sl) with
    | none => .er
    | some d => match F (Slot.io d :: args) with
      | .ok r ρf => match ρf[0]? with
        | some (Slot.io d') => match sl.put d' with
          | some sl' => .ok r (ρ.set i sl')
          | none => .er
        | _ => .er
      | .ex _ _ _ _ => .er
      | .er => .er
def mCallIO (i : Nat) (F : Fn) (ms : M (List R)) : M R := mPeek i >>= fun _ => ms >>= fun rs => liftIO i F (rs.map fun r => .va r.d)
theorem callIO_ok {n : Nat} {B : Bs} {ρ : State} {τ : List (V × R)} {σ : L2.St} {H : Hp} {Q : VK} {v0 : V} {vs : List V} {rs : List R} {E : XK} (hv0 : σ[i]? = some (some v0)) (hl : vs.length = rs.length) (hn : vs.length + 1 = n) (hs : St X.K X.mg B ρ ((vs.zip rs).reverse ++ τ) σ H)
    (q : PostE X.K X.mg B W τ σ Q (liftIO i F (rs.map fun r => .va r.d) ρ)) : spD X.K X.mg F n (v0 :: vs) H Q E := by
  obtain ⟨Hk, w, hI⟩ := hs
  obtain ⟨Hk', _, h', rr⟩ := clean_args hl hI
  unfold liftIO at q
  cases hr : ρ[i]? with
  | none => rw [hr] at q; exact q.elim
  | some sl =>
    rw [hr] at q
    simp only at q
    cases ho : ownD (some sl) with
    | none => rw [ho] at q; exact q.elim
    | some d =>
      rw [ho] at q
      simp only at q
      have hsl : sl = .ow d ∨ sl = .io d := by
        cases sl <;> simp only [ownD, reduceCtorEq, Option.some.injEq] at ho <;> subst ho
        · exact .inl rfl
        · exact .inr rfl
      obtain ⟨x0, hx0, hso⟩ := slot_at h' hr
      rw [hv0] at hx0; cases hx0
      obtain ⟨pp, ep, hkp, hcp⟩ : ∃ pp, v0 = .ref pp ∧ Hk' pp = none ∧ Cont X.K X.mg Hk' H pp d := by
        rcases hsl with rfl | rfl
        · obtain ⟨pp, e, _, a, _, c⟩ := hso; cases e; exact ⟨pp, rfl, a, c⟩
        · obtain ⟨pp, e, _, a, _, c⟩ := hso; cases e; exact ⟨pp, rfl, a, c⟩
      subst ep
      have e0 : (rs.map fun r => Slot.va r.d) = (rs.map R.d).map Slot.va := by rw [List.map_map]; rfl
      rw [e0] at q
      refine ⟨⟨Hk', H, fun a => a = pp ∨ IsTab X.K a⟩, .io d :: (rs.map R.d).map Slot.va, fun a => if a = pp then some (.s 0) else none, by simpa using hn, rfl, ⟨by simp [hl], fun _ _ z => z, h'.e1, fun _ _ z _ => z, fun _ _ z => .inl z, h'.live.sub h'.nk (fun _ z => .inr z), fun i x sl e1 e2 => ?_, trivial⟩, ?_⟩
      · cases i with
        | zero =>
          cases e1; cases e2
          exact ⟨pp, rfl, if_pos rfl, hkp, .inl rfl, hcp⟩
        | succ i =>
          obtain ⟨v, hv, rfl⟩ := Option.map_eq_some_iff.mp (by simpa using e1 : (vs[i]?).map some = some x)
          have e2 : ((rs.map R.d).map Slot.va)[i]? = some sl := by simpa using e2
          have e1 : (vs.map some)[i]? = some (some v) := by rw [List.getElem?_map, hv]; rfl
          have z : SlotOk X.K X.mg ⟨Hk', H, fun a => a = pp ∨ IsTab X.K a⟩ Hk' H (fun _ => none) i (some v) sl := rep_slots rr e1 e2
          cases sl with
          | va d => exact z
          | no => trivial
          | ow d => obtain ⟨_, _, z, _⟩ := z; cases z
          | io d => obtain ⟨_, _, z, _⟩ := z; cases z
      · cases h1 : F (.io d :: (rs.map R.d).map Slot.va) with
        | er => rw [h1] at q; exact q
        | ex c ns ds ρf => rw [h1] at q; exact q.elim
        | ok r ρf =>
          rw [h1] at q
          simp only at q
          cases h2 : ρf[0]? with
          | none => rw [h2] at q; exact q.elim
          | some sf =>
            rw [h2] at q
            cases sf <;> first | exact q.elim | skip
            rename_i d'
            simp only at q
            cases hpt : sl.put d' with
            | none => rw [hpt] at q; exact q.elim
            | some sl' =>
              rw [hpt] at q
              rintro v σ' H' ⟨Hk2, w2, c⟩
              obtain ⟨xf, hxf, hsf⟩ := slot_at c h2
              obtain ⟨pf, rfl, _, hkf, hiof, hcf⟩ := hsf
              have hiof : pf = pp := Or.resolve_right hiof (c.live.no_tab hcf.nt)
              subst hiof
              obtain ⟨w', h3⟩ := h'.after1 rfl rfl (fun _ => Iff.rfl) hv0 hr hsl hpt c hcf hkf
              exact q v H' ⟨Hk2, w', h3⟩
theorem tr_callIO {p0 : Pos} {x0 : Str} (G : FnG X.prog X.w X.K X.mg X.base k f fd ps (spD X.K X.mg F (es.length + 1))) (xr : XR k X) (pw : ∀ σ, PassesAt (L2.CX X.prog X.w) X σ (WE W σ)) (hg : Gl X x) (hm : X.mg x = some (.ref f)) (hk : PySem.W.keepIn X.K (.ref f) = true) (hb : Binds X.K fd ps []) (ha : TrA X W es ms)
    (hlen : ∀ ρ rs ρ', ms ρ = .ok rs ρ' → rs.length = es.length) (hN : X.N[i]? = some x0 := by rfl) (hv : Vis X.env.scope x0 := by first | exact Or.inl rfl | exact Or.inr (Or.inl rfl) | exact Or.inr (Or.inr rfl)) (hd0 : (x0 == ("__debug__" : Str)) = false := by decide) (hcd0 : (x0 == ("__classdict__" : Str)) = false := by decide)
    (hdb : (x == ("__debug__" : Str)) = false := by decide) (he : starEach (.Name x0 p0 :: es) X.env = (false, eval (.Name x0 p0) X.env) :: starEach es X.env := by rfl) (hpl : (backTo pos (starEach es X.env)).any (·.1) = false := by rfl) : TrE X W (.Call (.Name x p) (.Name x0 p0 :: es) [] pos) (mCallIO i F ms) := by
  intro B ρ τ σ H Q hs q
  refine ⟨tCallG (spD X.K X.mg F (es.length + 1)) (WE W) (tCons (tVar i) (AnyA X es)), pe_callG G xr hg hm hk hb pw (pa_cons (pe_var hN hv hd0 hcd0) pa_any he) hdb he hpl, ?_⟩
  obtain ⟨d0, h0, q⟩ := peek_post q
  obtain ⟨v, hv⟩ := hs.peek h0
  refine ⟨v, hv, ha B ρ τ σ H _ hs ?_⟩
  have q : PostE X.K X.mg B W τ σ Q ((ms ρ).then fun rs => liftIO i F (rs.map fun r => .va r.d)) := q
  cases h1 : ms ρ with
  | er => rw [h1] at q; exact q
  | ex c ns ds ρ' => rw [h1] at q; exact q
  | ok rs ρ1 =>
    rw [h1] at q
    intro vs H' hl hs'
    exact callIO_ok hv hl (by rw [hl, hlen _ _ _ h1]) hs' q
end
/-! ### a def's body -/
section
variable {P : Program} {w : World} {K : PySem.W.Frag} {mg : Str → Option Value} {base : Heap}
abbrev wOf (E : XK) : WX := fun cls d _ H => E cls d H
theorem fnG_of {name qual : Str} {params : Arguments} {body : List Stmt} {scope : Scope} {dV kV doc pm cdv ct oc : Value} {an od : Option Addr} {osl : Array (Option Value)} {N ps : List Str} {sp : Sp} {k : Nat} {f : Addr}
    (lk : K.lookup f = some ⟨oc, od, .func (PySem.W.fnOf name qual params body scope dV kV doc pm an cdv ct), osl⟩) (hcd : PySem.W.codeIn K cdv qual = true) (S : FnScope N ps scope) (len : ∀ vs H Q E, sp vs H Q E → vs.length = ps.length)
    (hbody : ∀ (A : Around) (outer : List Env) (s : Shared) (H : Hp) (vs : List V) (Q : VK) (E : XK), Room k (A.deeper (envOfC qual scope s.heap.objs.size f cdv)) → A.guards = some [] → sp vs H Q E →
      ∃ t, PSs (cxOf (L2.CX P w) P w K mg base N qual scope f cdv A outer s H E) body t ∧ t { nx := fun _ H' => Q .non H', rt := Q } (start N vs) H) :
    FnG P w K mg base (k + 1) f (PySem.W.fnOf name qual params body scope dV kV doc pm an cdv ct) ps sp := by
  constructor
  · exact len
  intro A outer s H args us vs Q E hr hgd e0 hb r hsp
  have hl := len _ _ _ _ hsp
  have keep : ∀ b o, base.get? b = some o → s.heap.get? b = some o := fun b o e => (e0.bs b o e).1
  have KX : K.In s.heap := e0.mod.kin.keeps keep
  have lim := e0.mod.nolimit.keeps keep
  have hkind : ∀ y ∈ ps.zip us, scope.names.lookup y.1 = some .local ∨ (scope.names.lookup y.1 = some .cell ∧ ((cellsFrom (s.heap.objs.size + 1) scope.names []).lookup y.1).isSome = true) := by
    rintro ⟨n, v⟩ hy
    cases S.par n (List.of_mem_zip hy).1 with
    | inl q => exact Or.inl q
    | inr q => exact Or.inr ⟨q, PySem.W.cellsFrom_some _ _ _ (Or.inl q)⟩
  refine codeAny_call_function hr.depth (KX _ _ lk) rfl S.co S.gen rfl (PySem.W.codeRec_of KX hcd) (hb _ _ _ _ ?_)
  refine wpAny_newFunctionEnv_cells S.kind hkind ?_
  rintro env rfl s1 x
  refine ⟨lim.keeps x.toInCall.keep, codeAny_func ?_⟩
  obtain ⟨t, ht, hq⟩ := hbody A outer s H vs Q E (hr.deeper _) hgd hsp
  have I : Inv (cxOf (L2.CX P w) P w K mg base N qual scope f cdv A outer s H E) [] (start N vs) H s1 := inv_start S hr.hd e0 hl r x
  refine wpAny_mono (ht.run [] s1 _ H _ I hq) ?_ (fun _ _ z => z)
  rintro fl s' hs
  match fl, hs with
  | .ret u, ⟨v, σ', H', J, rv, q⟩ => exact ⟨v, H', J.os, J.bare, J.base, J.hok, rv, q⟩
  | .next, ⟨σ', H', J, q⟩ => exact ⟨.non, H', J.os, J.bare, J.base, J.hok, rfl, q⟩
  | .brk, ⟨_, _, _, q⟩ => exact q.elim
  | .cont, ⟨_, _, _, q⟩ => exact q.elim
/-- THE RULE for a def: its body does what m does -/
theorem fn_body {x qual : Str} {st : Stmt} {f : Addr} {fd : FuncData} {N ps : List Str} {k : Nat} {m : M Fl} (F : Fun K x qual st f fd) (S : FnScope N ps (defScope st))
    (hb : ∀ (cdv : Value) (A : Around) (outer : List Env) (s : Shared) (H : Hp) (E : XK), XR k (cxOf (L2.CX P w) P w K mg base N qual (defScope st) f cdv A outer s H E) → PassesOwn (model P w) (A.deeper (envOfC qual (defScope st) s.heap.objs.size f cdv)) (envOfC qual (defScope st) s.heap.objs.size f cdv) (cxOf (L2.CX P w) P w K mg base N qual (defScope st) f cdv A outer s H E).xe →
      Takes (cxOf (L2.CX P w) P w K mg base N qual (defScope st) f cdv A outer s H E) (wOf E) → TrSs (cxOf (L2.CX P w) P w K mg base N qual (defScope st) f cdv A outer s H E) (wOf E) (defBody st) m) :
    FnG P w K mg base (k + 1) f fd ps (spD K mg (bodyF N.length m) ps.length) := by
  obtain ⟨oc, od, kV, doc, pm, an, cdv, ct, osl, rfl, lk, hcd⟩ := F.ex
  refine fnG_of lk hcd S (fun vs H Q E h => by obtain ⟨_, _, _, h, _⟩ := h; exact h) fun A outer s H vs Q E hr hgd hsp => ?_
  obtain ⟨B, ρ, w', hn, hH, hI, q⟩ := hsp
  have xr : XR k (cxOf (L2.CX P w) P w K mg base N qual (defScope st) f cdv A outer s H E) := ⟨hr, hgd, rfl, S.nd⟩
  have tk : Takes (cxOf (L2.CX P w) P w K mg base N qual (defScope st) f cdv A outer s H E) (wOf E) := takes_of rfl rfl rfl rfl
  have hlr : ρ.length = vs.length := by simpa using hI.len
  have hst : St K mg B (ρ ++ List.replicate (N.length - vs.length) .no) [] (start N vs) H := ⟨B.Hk0, w', hI.pad (N.length - vs.length)⟩
  refine hb cdv A outer s H E xr (passes_of rfl) tk B (ρ ++ List.replicate (N.length - vs.length) Slot.no) [] (start N vs) H _ hst ?_
  unfold bodyF at q
  rw [hlr] at q
  show PostS K mg B (wOf E) [] _ (m (ρ ++ List.replicate (N.length - vs.length) .no))
  cases h1 : m (ρ ++ List.replicate (N.length - vs.length) .no) with
  | er => rw [h1] at q; exact q
  | ex c ns ds ρ' => rw [h1] at q; exact fun σ' C d H' hs hx => q C d σ' H' hs hx
  | ok fl ρ' =>
    rw [h1] at q
    cases fl with
    | nx => exact fun σ' H' ⟨Hk, w2, h2⟩ => q .non σ' H' ⟨Hk, w2, h2.push .non⟩
    | rt r => exact fun v σ' H' hs => q v σ' H' hs
    | bk => exact q.elim
    | ct => exact q.elim
end
end Vy
namespace Vy
open PySem PySem.Spec PyProof.Rows L2
open Evl (Ex)
def LenA (ms : M (List R)) (n : Nat) : Prop := ∀ ρ rs ρ', ms ρ = .ok rs ρ' → rs.length = n
theorem len_nil : LenA mNil 0 := fun ρ rs ρ' h => by cases h; rfl
theorem len_cons {m : M R} {ms : M (List R)} {n : Nat} (h : LenA ms n) : LenA (mCons m ms) (n + 1) := fun ρ rs ρ' e => by
  have e : (m ρ).then (fun r => ms >>= fun rs => pure (r :: rs)) = .ok rs ρ' := e
  cases h1 : m ρ with
  | er => rw [h1] at e; cases e
  | ex c ns ds ρ1 => rw [h1] at e; cases e
  | ok r ρ1 =>
    rw [h1] at e
    have e : (ms ρ1).then (fun rs => pure (r :: rs)) = .ok rs ρ' := e
    cases h2 : ms ρ1 with
    | er => rw [h2] at e; cases e
    | ex c ns ds ρ1 => rw [h2] at e; cases e
    | ok rs' ρ2 =>
      rw [h2] at e
      cases e
      rw [List.length_cons, h _ rs' _ h2]

/-! ### the law's own call -/
/-- the script is known to the object, or stands in the written part -/
theorem script_hp {P : Program} {w : World} {K : PySem.W.Frag} {h : Heap} {a : Addr} {vs : List Value} {ns : List Int} (KX : K.In h) (ha : h.get? a = some { cls := .type "list", data := .seq vs.toArray }) (hi : IntsAre vs ns) (hl : ns.length ≤ sizeLine) :
    ∃ H : Hp, Only H ∧ SqL K H a (ns.map V.int) ∧ HOk P w H h ∧ (∀ b, H b ≠ none → b = a ∧ K.lookup a = none) := by
  have rv := vals_ints hi
  have lenV := hi.length
  cases hk : K.lookup a with
  | some o =>
    have e := KX a o hk
    rw [ha] at e
    cases e
    refine ⟨fun _ => none, fun _ => Or.inl rfl, Or.inr ⟨_, vs.toArray, _, hk, rfl, rfl, rfl, ?_, ?_⟩, ?_, ?_⟩
    · simpa [lenV] using hl
    · simpa using rv
    · intro b u z
      exact absurd z (by simp)
    · intro b z
      exact absurd rfl z
  | none =>
    have at_a : ∀ b u, (if b = a then some (HO.frz { cls := .type "list", data := .seq vs.toArray } (.lst (ns.map V.int))) else none) = some u → b = a ∧ u = HO.frz { cls := .type "list", data := .seq vs.toArray } (.lst (ns.map V.int)) := fun b u z => by
      by_cases hb : b = a
      · rw [if_pos hb] at z; cases z; exact ⟨hb, rfl⟩
      · rw [if_neg hb] at z; cases z
    refine ⟨fun b => if b = a then some (.frz { cls := .type "list", data := .seq vs.toArray } (.lst (ns.map V.int))) else none, fun b => ?_, Or.inl (Or.inr ⟨_, if_pos rfl⟩), fun b u z => ?_, fun b z => ?_⟩
    · by_cases hb : b = a
      · exact Or.inr ⟨_, _, if_pos hb⟩
      · exact Or.inl (if_neg hb)
    · obtain ⟨rfl, rfl⟩ := at_a b u z
      exact ⟨ha, by simpa using hl, vs, _, rv, ha⟩
    · by_cases hb : b = a
      · exact ⟨hb, rfl⟩
      · exact absurd (if_neg hb) z
theorem law_run {P : Program} {w : World} {K : PySem.W.Frag} {mg mb : Str → Option Value} {k : Nat} {fa a : Addr} {fd : FuncData} {x : Str} {F : Fn} {s₁ : Shared} {vs : List Value} {ns : List Int}
    (KX : K.In s₁.heap) (hns : s₁.heap.Ns mainGlobals mg) (hb : s₁.heap.Ns builtinsNs mb) (hbb : ∀ x : Str, x ≠ "__name__" → mb x = bootBuiltins x) (hlim : s₁.heap.NoLimit) (hg : s₁.gens = #[])
    (ha : s₁.heap.get? a = some { cls := .type "list", data := .seq vs.toArray }) (hi : IntsAre vs ns) (hl : ns.length ≤ sizeLine) (hr : Room k callerA) (hLT : LawTabs K = [])
    (G : ∀ base : Heap, K.In base → base.Ns mainGlobals mg → FnG P w K mg base k fa fd [x] (spD K mg F 1)) (hbind : ∀ (s : Shared) (u : Value), BindsTo s fd ⟨[u], []⟩ [(x, u)]) (hF : ∃ r ρ', F [.va (.scr ns)] = .ok r ρ' ∧ r.d = .bl true) :
    codeAny (model P w) callerA (.call (.ref fa) ⟨[.ref a], []⟩) (fun r s' => r = .ok (.ret (.bool true)) ∧ OldK s₁.heap s'.heap ∧ s'.os = s₁.os ∧ AllBare s'.gens) s₁ := by
  obtain ⟨H, hO, hS, hok, hA⟩ := script_hp (P := P) (w := w) KX ha hi hl
  -- what the base keeps
  have none_of : ∀ {b : Addr} {o : Obj} {es : Array DictEntry} {ep : Nat}, s₁.heap.get? b = some o → o.data = .dict es ep → H b = none := by
    intro b o es ep e d
    cases q : H b with
    | none => rfl
    | some u =>
      obtain ⟨rfl, _⟩ := hA b (by rw [q]; simp)
      rw [ha] at e
      cases e
      cases (show Data.seq vs.toArray _ = Data.dict es ep from d)
  have nsK : ∀ {b : Addr} {m : Str → Option Value}, s₁.heap.Ns b m → (hidT s₁.heap H).Ns b m := by
    rintro b m ⟨o, es, ep, e, d, r⟩
    exact ⟨o, es, ep, hidT_get e (none_of e d), d, r⟩
  have hKb : K.In (hidT s₁.heap H) := by
    intro b o e
    refine hidT_get (KX b o e) ?_
    cases q : H b with
    | none => rfl
    | some u =>
      obtain ⟨rfl, z⟩ := hA b (by rw [q]; simp)
      rw [z] at e
      cases e
  have hM : Mod K mg (hidT s₁.heap H) := by
    obtain ⟨mc, h1, h2⟩ := hlim
    exact ⟨hKb, nsK hns, ⟨mb, nsK hb, hbb⟩, ⟨mc, nsK h1, h2⟩⟩
  have e0 : Env0 P w K mg (hidT s₁.heap H) callerA [] s₁ H := ⟨rfl, hM, fun b o e => of_hidT e, Nat.le_of_eq (hidT_size _ _), trivial, (fun b hb => nomatch hb), hok, AllBare.of_eq hg⟩
  obtain ⟨r0, ρ0, hF, hd⟩ := hF
  have hsp : spD K mg F 1 [.ref a] H (fun v _ => v = .bl true) (fun _ _ _ => False) := by
    refine ⟨⟨H, H, fun _ => False⟩, [.va (.scr ns)], fun _ => none, rfl, rfl, ⟨rfl, fun _ _ z => z, fun _ _ z => z, fun _ _ z _ => z, fun _ _ z => .inl z, ⟨fun _ z => z, fun p hp => by rw [hLT] at hp; simp at hp, fun p hp => by rw [hLT] at hp; simp at hp, fun a ps e => by rcases hO a with z | ⟨_, _, z⟩ <;> rw [z] at e <;> cases e⟩, fun i y sl e1 e2 => ?_, trivial⟩, ?_⟩
    · cases i with
      | zero => cases e1; cases e2; exact ⟨_, rfl, .scr hS⟩
      | succ i => simp at e1
    · rw [hF]
      rintro v σ' H' ⟨Hk, w', c⟩
      have vw := c.view
      rw [hd] at vw
      exact vw.bl_eq
  refine codeAny_mono ((G _ hKb (nsK hns)).run callerA [] s₁ H ⟨[.ref a], []⟩ [.ref a] [.ref a] _ _ hr rfl e0 (hbind s₁ (.ref a)) (.cons rfl .nil) hsp) ?_
  intro r s' h
  match r, h with
  | .error e, h =>
    obtain ⟨_, _, _, _, _, _, _, _, _, _, _, _, z⟩ := h
    exact z.elim
  | .ok .next, h => exact h.elim
  | .ok .brk, h => exact h.elim
  | .ok .cont, h => exact h.elim
  | .ok (.ret u), h =>
    obtain ⟨v, H', os, bare, un, hok', r', q⟩ := h
    obtain rfl : v = .bl true := q
    obtain rfl : u = Value.bool true := r'
    refine ⟨rfl, OldK.of_keep fun b o e => ?_, os, bare⟩
    cases q : H b with
    | none => exact un.keep b o e q (fun z => nomatch z) (fun z => nomatch z)
    | some u =>
      rcases hO b with z | ⟨ob, xs, z⟩
      · rw [q] at z; cases z
      · have z2 := (hok' b _ (un.frzs b ob _ z)).1
        have z1 := (hok b _ z).1
        rw [e] at z1
        cases z1
        exact z2
theorem walk_G {l : PySem.W.OpenLaw} {n k : Nat} {q : Program} {loose : List Str} {XP : (Str → Option Value) → Heap → Prop} {YP : World → Heap → Prop} {d : DefRec} {K : Params → PySem.W.Frag} {x : Str} {F : Fn}
    (hn : l.most = some n) (hn2 : n ≤ sizeLine) (hdf : d.params.defaults = []) (hr : Room k callerA) (hLT : ∀ w : World, LawTabs (K w.params) = []) (hY : ∀ (w : World) (h : Heap), YP w h → (K w.params).In h)
    (G : ∀ (w : World) (mg : Str → Option Value) (fa : Addr) (h : Heap), (K w.params).In h → h.Ns mainGlobals mg → mg d.name = some (.ref fa) → ∃ fd : FuncData, (∀ (s : Shared) (u : Value), BindsTo s fd ⟨[u], []⟩ [(x, u)]) ∧
      ∀ base : Heap, (K w.params).In base → base.Ns mainGlobals mg → FnG l.prog w (K w.params) mg base k fa fd [x] (spD (K w.params) mg F 1))
    (hF : ∀ ns : List Int, ns.length ≤ n → ∃ r ρ', F [.va (.scr ns)] = .ok r ρ' ∧ r.d = .bl true) : PySem.W.WalkO q loose XP YP l.row.toRowW d [] (fun f vs => PySem.call f vs) := by
  refine Att.attach_call hn hdf ?_
  intro w s₀ s₁ mg mb fa o pm cd doc a vs ns G0 Y ho hd hcd hmg hobj hints hlen hg
  obtain ⟨fd, hb, hG⟩ := G w mg fa _ (hY w _ Y) G0.T.g hmg
  exact law_run (hY w _ Y) G0.T.g G0.T.b G0.T.builtins G0.T.nolimit hg hobj hints (Nat.le_trans hlen hn2) hr (hLT w) hG hb (hF ns hlen)
end Vy
namespace Vy
open PySem PySem.Spec PyProof.Rows L2
open Evl (Ex)
/-! ### built-ins on one value -/
def FnV (X : Cx) (f : Value) (g : D → Option R) : Prop := RdOk X (fun v H Q => AnyC X f [v] H Q) g
def intsOf : List D → Option (List Int)
  | [] => some []
  | .int i :: ds => (intsOf ds).map (i :: ·)
  | _ :: _ => none
def bsOf : List D → Option (List Bool)
  | [] => some []
  | .bl i :: ds => (bsOf ds).map (i :: ·)
  | _ :: _ => none
theorem intsOf_eq : ∀ {ds : List D} {ns : List Int}, intsOf ds = some ns → ds = ns.map .int
  | [], _, h => by cases h; rfl
  | .int i :: ds, ns, h => by
    simp only [intsOf, Option.map_eq_some_iff] at h
    obtain ⟨ms, h, rfl⟩ := h
    rw [intsOf_eq h]; rfl
  | .non :: _, _, h | .bl _ :: _, _, h | .str _ :: _, _, h | .tup _ :: _, _, h | .lst _ :: _, _, h | .scr _ :: _, _, h | .obj _ _ _ :: _, _, h | .fn _ :: _, _, h | .adr _ :: _, _, h | .exc _ _ _ _ :: _, _, h | .clo _ _ _ _ _ _ :: _, _, h => by cases h
theorem bsOf_eq : ∀ {ds : List D} {ns : List Bool}, bsOf ds = some ns → ds = ns.map .bl
  | [], _, h => by cases h; rfl
  | .bl i :: ds, ns, h => by
    simp only [bsOf, Option.map_eq_some_iff] at h
    obtain ⟨ms, h, rfl⟩ := h
    rw [bsOf_eq h]; rfl
  | .non :: _, _, h | .int _ :: _, _, h | .str _ :: _, _, h | .tup _ :: _, _, h | .lst _ :: _, _, h | .scr _ :: _, _, h | .obj _ _ _ :: _, _, h | .fn _ :: _, _, h | .adr _ :: _, _, h | .exc _ _ _ _ :: _, _, h | .clo _ _ _ _ _ _ :: _, _, h => by cases h
theorem intsOf_map : ∀ ns : List Int, intsOf (ns.map .int) = some ns
  | [] => rfl
  | n :: ns => by simp [intsOf, intsOf_map ns]
theorem bsOf_map : ∀ ns : List Bool, bsOf (ns.map .bl) = some ns
  | [] => rfl
  | n :: ns => by simp [bsOf, bsOf_map ns]
theorem repL_ints {K : PySem.W.Frag} {mg : Str → Option Value} {H : Hp} : ∀ {ns : List Int} {xs : List V}, RepL K mg H xs (ns.map .int) → xs = ns.map .int
  | [], _, .nil => rfl
  | n :: ns, _, .cons h r => by rw [h.int_eq, repL_ints r]; rfl
theorem repL_bls {K : PySem.W.Frag} {mg : Str → Option Value} {H : Hp} : ∀ {ns : List Bool} {xs : List V}, RepL K mg H xs (ns.map .bl) → xs = ns.map .bl
  | [], _, .nil => rfl
  | n :: ns, _, .cons h r => by rw [h.bl_eq, repL_bls r]; rfl
def dLen : D → Option R
  | .str z => if z.length ≤ sizeLine then some (.cl (.int z.length)) else none
  | .lst xs => some (.cl (.int xs.length))
  | .tup xs => some (.cl (.int xs.length))
  | _ => none
def dAbs : D → Option R
  | .int i => some (.cl (.int (if i < 0 then -i else i)))
  | _ => none
def dInt : D → Option R
  | .int i => some (.cl (.int i))
  | .bl b => some (.cl (.int (if b then 1 else 0)))
  | _ => none
def dSum : D → Option R
  | .lst xs => (intsOf xs).map fun ns => .cl (.int ns.sum)
  | _ => none
def maxI : List Int → Option Int
  | [] => none
  | n :: ns => some (ns.foldl max n)
def minI : List Int → Option Int
  | [] => none
  | n :: ns => some (ns.foldl min n)
def dMaxL : D → Option R
  | .lst xs => (intsOf xs).bind fun ns => (maxI ns).map fun i => .cl (.int i)
  | _ => none
def dMinL : D → Option R
  | .lst xs => (intsOf xs).bind fun ns => (minI ns).map fun i => .cl (.int i)
  | _ => none
def dAll : D → Option R
  | .lst xs => (bsOf xs).map fun bs => .cl (.bl (bs.all id))
  | _ => none
def dAny : D → Option R
  | .lst xs => (bsOf xs).map fun bs => .cl (.bl (bs.any id))
  | _ => none
def dTup : D → Option R
  | .lst xs => some (.cl (.tup xs))
  | .tup xs => some (.cl (.tup xs))
  | _ => none
def dLst : D → Option R
  | .lst xs => some (.fr (.lst xs))
  | .tup xs => some (.fr (.lst xs))
  | _ => none
def dRepr (d : D) : Option R := match d.py with
  | some p => if p.showable && decide (p.shown.length ≤ sizeLine) && decide (p.depth ≤ 64) && !p.hasDict then some (.cl (.str p.shown)) else none
  | none => none
theorem maxI_is : ∀ {ns : List Int} {m : Int}, maxI ns = some m → m ∈ ns ∧ ∀ y ∈ ns, y ≤ m
  | n :: ns, m, h => by
    cases h
    have gen : ∀ (l : List Int) (a : Int), (l.foldl max a = a ∨ l.foldl max a ∈ l) ∧ a ≤ l.foldl max a ∧ ∀ y ∈ l, y ≤ l.foldl max a := by
      intro l
      induction l with
      | nil => intro a; exact ⟨.inl rfl, Int.le_refl _, fun _ h => nomatch h⟩
      | cons b l ih =>
        intro a
        obtain ⟨h1, h2, h3⟩ := ih (max a b)
        refine ⟨?_, Int.le_trans (by omega) h2, fun y hy => ?_⟩
        · rcases h1 with h1 | h1
          · by_cases hab : b ≤ a
            · left; show l.foldl max (max a b) = a; rw [h1]; omega
            · right; show l.foldl max (max a b) ∈ b :: l; rw [h1]; rw [show max a b = b by omega]; exact List.mem_cons_self
          · right; exact List.mem_cons_of_mem _ h1
        · rcases List.mem_cons.mp hy with rfl | hy
          · exact Int.le_trans (by omega) h2
          · exact h3 y hy
    obtain ⟨h1, h2, h3⟩ := gen ns n
    refine ⟨?_, fun y hy => ?_⟩
    · rcases h1 with h1 | h1
      · rw [h1]; exact List.mem_cons_self
      · exact List.mem_cons_of_mem _ h1
    · rcases List.mem_cons.mp hy with rfl | hy
      · exact h2
      · exact h3 y hy
theorem minI_is : ∀ {ns : List Int} {m : Int}, minI ns = some m → m ∈ ns ∧ ∀ y ∈ ns, m ≤ y
  | n :: ns, m, h => by
    cases h
    have gen : ∀ (l : List Int) (a : Int), (l.foldl min a = a ∨ l.foldl min a ∈ l) ∧ l.foldl min a ≤ a ∧ ∀ y ∈ l, l.foldl min a ≤ y := by
      intro l
      induction l with
      | nil => intro a; exact ⟨.inl rfl, Int.le_refl _, fun _ h => nomatch h⟩
      | cons b l ih =>
        intro a
        obtain ⟨h1, h2, h3⟩ := ih (min a b)
        refine ⟨?_, Int.le_trans h2 (by omega), fun y hy => ?_⟩
        · rcases h1 with h1 | h1
          · by_cases hab : a ≤ b
            · left; show l.foldl min (min a b) = a; rw [h1]; omega
            · right; show l.foldl min (min a b) ∈ b :: l; rw [h1]; rw [show min a b = b by omega]; exact List.mem_cons_self
          · right; exact List.mem_cons_of_mem _ h1
        · rcases List.mem_cons.mp hy with rfl | hy
          · exact Int.le_trans h2 (by omega)
          · exact h3 y hy
    obtain ⟨h1, h2, h3⟩ := gen ns n
    refine ⟨?_, fun y hy => ?_⟩
    · rcases h1 with h1 | h1
      · rw [h1]; exact List.mem_cons_self
      · exact List.mem_cons_of_mem _ h1
    · rcases List.mem_cons.mp hy with rfl | hy
      · exact h2
      · exact h3 y hy
section
variable {X : Cx} {k : Nat}
theorem fv_len : FnV X (.builtin "len") dLen := by
  intro B ρ τ σ H Q v d r e ⟨Hk, w, hI, vw⟩ q
  cases d <;> simp only [dLen, reduceCtorEq, Option.some.injEq] at e
  · split at e
    · rename_i hz; cases e
      rw [vw.str_eq]
      exact ⟨_, call_len_str, _, rfl, hz, q _ _ ⟨Hk, w, hI.push (.int _)⟩⟩
    · cases e
  · subst e
    obtain ⟨a, xs, rfl, ha, ra⟩ := vw.tup hI.e1
    exact ⟨_, call_len_seq, a, xs, rfl, .inr ha, by rw [ra.len]; exact q _ _ ⟨Hk, w, hI.push (.int _)⟩⟩
  · subst e
    obtain ⟨a, xs, rfl, ha, ra⟩ := vw.lst hI.e1
    exact ⟨_, call_len_seq, a, xs, rfl, .inl (SqL.of ha), by rw [ra.len]; exact q _ _ ⟨Hk, w, hI.push (.int _)⟩⟩
theorem fv_abs : FnV X (.builtin "abs") dAbs := by
  intro B ρ τ σ H Q v d r e ⟨Hk, w, hI, vw⟩ q
  cases d <;> simp only [dAbs, reduceCtorEq, Option.some.injEq] at e
  subst e
  rw [vw.int_eq]
  exact ⟨_, call_abs, _, rfl, q _ _ ⟨Hk, w, hI.push (.int _)⟩⟩
theorem fv_int : FnV X (.type "int") dInt := by
  intro B ρ τ σ H Q v d r e ⟨Hk, w, hI, vw⟩ q
  cases d <;> simp only [dInt, reduceCtorEq, Option.some.injEq] at e <;> subst e
  · rw [vw.bl_eq]
    exact ⟨_, call_int1, .inr ⟨_, rfl, q _ _ ⟨Hk, w, hI.push (.int _)⟩⟩⟩
  · rw [vw.int_eq]
    exact ⟨_, call_int1, .inl ⟨_, rfl, q _ _ ⟨Hk, w, hI.push (.int _)⟩⟩⟩
theorem fv_sum (hc : X.calm = true) : FnV X (.builtin "sum") dSum := by
  intro B ρ τ σ H Q v d r e ⟨Hk, w, hI, vw⟩ q
  cases d <;> simp only [dSum, reduceCtorEq, Option.map_eq_some_iff] at e
  obtain ⟨ns, hn, rfl⟩ := e
  obtain ⟨a, xs, rfl, ha, ra⟩ := vw.lst hI.e1
  rw [intsOf_eq hn] at ra
  rw [repL_ints ra] at ha
  exact ⟨_, cr_sum hc, a, ns, rfl, SqL.of ha, q _ _ ⟨Hk, w, hI.push (.int _)⟩⟩
theorem fv_max (hc : X.calm = true) : FnV X (.builtin "max") dMaxL := by
  intro B ρ τ σ H Q v d r e ⟨Hk, w, hI, vw⟩ q
  cases d <;> simp only [dMaxL, reduceCtorEq, Option.bind_eq_some_iff, Option.map_eq_some_iff] at e
  obtain ⟨ns, hn, m, hm, rfl⟩ := e
  obtain ⟨a, xs, rfl, ha, ra⟩ := vw.lst hI.e1
  rw [intsOf_eq hn] at ra
  rw [repL_ints ra] at ha
  obtain ⟨m1, m2⟩ := maxI_is hm
  refine ⟨_, cr_max hc, a, ns, rfl, SqL.of ha, List.length_pos_of_mem m1, fun m' h1 h2 => ?_⟩
  have e : m' = m := by have := h2 m m1; have := m2 m' h1; omega
  subst e
  exact q _ _ ⟨Hk, w, hI.push (.int _)⟩
theorem fv_min (hc : X.calm = true) : FnV X (.builtin "min") dMinL := by
  intro B ρ τ σ H Q v d r e ⟨Hk, w, hI, vw⟩ q
  cases d <;> simp only [dMinL, reduceCtorEq, Option.bind_eq_some_iff, Option.map_eq_some_iff] at e
  obtain ⟨ns, hn, m, hm, rfl⟩ := e
  obtain ⟨a, xs, rfl, ha, ra⟩ := vw.lst hI.e1
  rw [intsOf_eq hn] at ra
  rw [repL_ints ra] at ha
  obtain ⟨m1, m2⟩ := minI_is hm
  refine ⟨_, cr_min hc, a, ns, rfl, SqL.of ha, List.length_pos_of_mem m1, fun m' h1 h2 => ?_⟩
  have e : m' = m := by have := h2 m m1; have := m2 m' h1; omega
  subst e
  exact q _ _ ⟨Hk, w, hI.push (.int _)⟩
theorem fv_all (hc : X.calm = true) : FnV X (.builtin "all") dAll := by
  intro B ρ τ σ H Q v d r e ⟨Hk, w, hI, vw⟩ q
  cases d <;> simp only [dAll, reduceCtorEq, Option.map_eq_some_iff] at e
  obtain ⟨ns, hn, rfl⟩ := e
  obtain ⟨a, xs, rfl, ha, ra⟩ := vw.lst hI.e1
  rw [bsOf_eq hn] at ra
  rw [repL_bls ra] at ha
  exact ⟨_, cr_all hc, a, ns, rfl, SqL.of ha, q _ _ ⟨Hk, w, hI.push (.bl _)⟩⟩
theorem fv_any (hc : X.calm = true) : FnV X (.builtin "any") dAny := by
  intro B ρ τ σ H Q v d r e ⟨Hk, w, hI, vw⟩ q
  cases d <;> simp only [dAny, reduceCtorEq, Option.map_eq_some_iff] at e
  obtain ⟨ns, hn, rfl⟩ := e
  obtain ⟨a, xs, rfl, ha, ra⟩ := vw.lst hI.e1
  rw [bsOf_eq hn] at ra
  rw [repL_bls ra] at ha
  exact ⟨_, cr_any hc, a, ns, rfl, SqL.of ha, q _ _ ⟨Hk, w, hI.push (.bl _)⟩⟩
theorem fv_tup : FnV X (.type "tuple") dTup := by
  intro B ρ τ σ H Q v d r e ⟨Hk, w, hI, vw⟩ q
  cases d <;> simp only [dTup, reduceCtorEq, Option.some.injEq] at e <;> subst e
  · obtain ⟨a, xs, rfl, ha, ra⟩ := vw.tup hI.e1
    refine ⟨_, call_tuple_of, a, xs, rfl, .inr ⟨ha, ?_⟩⟩
    rcases vw with vw | ⟨p, _, vw⟩
    · exact q _ _ ⟨Hk, w, hI.push vw⟩
    · exact vw.elim
  · obtain ⟨a, xs, rfl, ha, ra⟩ := vw.lst hI.e1
    refine ⟨_, call_tuple_of, a, xs, rfl, .inl ⟨SqL.of ha, fun p hp => ?_⟩⟩
    have ek : Ex Hk (upd Hk p (.tup xs)) := Ex.new (Evl.fresh_back hI.e1 hp)
    exact q _ _ ⟨_, w, (hI.laidK hp).push (.tup (.inl (.inl upd_same)) (ra.up ek))⟩
theorem fv_lst : FnV X (.type "list") dLst := by
  intro B ρ τ σ H Q v d r e ⟨Hk, w, hI, vw⟩ q
  cases d <;> simp only [dLst, reduceCtorEq, Option.some.injEq] at e <;> subst e
  · obtain ⟨a, xs, rfl, ha, ra⟩ := vw.tup hI.e1
    exact ⟨_, call_list_of, a, xs, rfl, .inr ha, fun p hp => q _ _ ⟨_, _, hI.laidO hp ⟨_, upd_same, ra⟩⟩⟩
  · obtain ⟨a, xs, rfl, ha, ra⟩ := vw.lst hI.e1
    exact ⟨_, call_list_of, a, xs, rfl, .inl (SqL.of ha), fun p hp => q _ _ ⟨_, _, hI.laidO hp ⟨_, upd_same, ra⟩⟩⟩
/-- repr of data -/
def rReprD (K : PySem.W.Frag) : List V → Hp → VK → Prop := fun xs H Q => ∃ v p, xs = [v] ∧ Dp K H v p ∧ p.showable = true ∧ p.shown.length ≤ sizeLine ∧ p.depth ≤ 64 ∧ p.hasDict = false ∧ Q (.str p.shown) H
theorem call_reprD (xr : XR k X) : CallR X (.builtin "repr") (rReprD X.K) := by
  intro pins s σ H xs us Q I r h
  obtain ⟨v, p, rfl, hd, h1, h2, h3, h4, q⟩ := h
  obtain ⟨u, rfl, ru⟩ := vals1 r
  obtain ⟨as, hr⟩ := Dp.reads I p v u hd ru
  have hu := xr.hu2
  cases hr with
  | none => exact PySem.P.repr_of_none ⟨.str _, H, I.tok _, ⟨_, rfl⟩, by simpa [PyData.shown] using q⟩
  | bool b => exact PySem.P.repr_of_bool ⟨.str _, H, I.tok _, ⟨_, rfl⟩, by simpa [PyData.shown] using q⟩
  | int i t => exact PySem.P.repr_of_int (by simpa [PyData.showable] using h1) ⟨.str _, H, I.tok _, ⟨_, rfl⟩, by simpa [PyData.shown] using q⟩
  | str x t => exact PySem.P.repr_of_str ⟨.str _, H, I.tok _, ⟨_, rfl⟩, by simpa [PyData.shown] using q⟩ (by simpa [PyData.shown] using h2)
  | list a1 a2 a3 a4 => exact repr_of_reads' (.list a1 a2 a3 a4) h1 (fun z => by rw [h4] at z; cases z) xr.gd (by omega) (fun _ _ e => e) (fun h' u tk hk => ⟨.str _, H, I.kept hk, ⟨_, rfl⟩, q⟩) h2
  | tuple a1 a2 a3 a4 => exact repr_of_reads' (.tuple a1 a2 a3 a4) h1 (fun z => by rw [h4] at z; cases z) xr.gd (by omega) (fun _ _ e => e) (fun h' u tk hk => ⟨.str _, H, I.kept hk, ⟨_, rfl⟩, q⟩) h2
  | dict a1 a2 a3 a4 a5 => simp [PyData.hasDict] at h4
theorem fv_repr (xr : XR k X) : FnV X (.builtin "repr") dRepr := by
  intro B ρ τ σ H Q v d r e ⟨Hk, w, hI, vw⟩ q
  unfold dRepr at e
  cases hp : d.py with
  | none => rw [hp] at e; cases e
  | some p =>
    rw [hp] at e
    simp only at e
    split at e
    · rename_i hz
      cases e
      simp only [Bool.and_eq_true, decide_eq_true_eq, Bool.not_eq_true'] at hz
      obtain ⟨⟨⟨z1, z2⟩, z3⟩, z4⟩ := hz
      exact ⟨_, call_reprD xr, v, p, rfl, vw.dp hI.e1 hp, z1, z2, z3, z4, q _ _ ⟨Hk, w, hI.push (.str _)⟩⟩
    · cases e
end
section
variable {X : Cx} {W : WX} {e a b tg : Expr} {es : List Expr} {m ma mb : M R} {mv : M D} {ms : M (List R)} {i j : Nat} {x y : Str} {pos p p' : Pos} {g : D → Option R} {id T : String}
theorem tr_bi (hf : FnV X (.builtin id) g) (h : TrV X W a mv) (hg : Gl X x) (hm : X.mg x = none) (hv : bootBuiltins x = some (.builtin id)) (hn : x ≠ "__name__" := by decide) (hdb : (x == ("__debug__" : Str)) = false := by decide)
    (he : starEach [a] X.env = (false, eval a X.env) :: starEach [] X.env := by rfl) (hpl : (backTo pos (starEach [] X.env)).any (·.1) = false := by rfl) : TrE X W (.Call (.Name x p) [a] [] pos) (mRd g mv) := fun B ρ τ σ H Q hs q =>
  ⟨tCB (AnyC X (.builtin id)) (tCons (AnyE X a) tNil), pe_callB call_any hg hm hv (pa_cons pe_any pa_nil he) hn hdb he hpl, h B ρ τ σ H _ hs (rd_post (f := fun v H Q => AnyC X (.builtin id) [v] H Q) hf q)⟩
theorem tr_ty (hf : FnV X (.type T) g) (h : TrV X W a mv) (hg : Gl X x) (hm : X.mg x = none) (hv : bootBuiltins x = some (.type T)) (hn : x ≠ "__name__" := by decide) (hdb : (x == ("__debug__" : Str)) = false := by decide)
    (he : starEach [a] X.env = (false, eval a X.env) :: starEach [] X.env := by rfl) (hpl : (backTo pos (starEach [] X.env)).any (·.1) = false := by rfl) : TrE X W (.Call (.Name x p) [a] [] pos) (mRd g mv) := fun B ρ τ σ H Q hs q =>
  ⟨tCB (AnyC X (.type T)) (tCons (AnyE X a) tNil), pe_callTy call_any hg hm hv (pa_cons pe_any pa_nil he) hn hdb he hpl, h B ρ τ σ H _ hs (rd_post (f := fun v H Q => AnyC X (.type T) [v] H Q) hf q)⟩
/-- two arguments -/
def Fn2 (X : Cx) (f : Value) (g : D → D → Option R) : Prop := ∀ B ρ τ σ H Q (v u : V) (x y : R) r, g x.d y.d = some r → St X.K X.mg B ρ ((u, y) :: (v, x) :: τ) σ H →
  (∀ z H', St X.K X.mg B ρ ((z, r) :: τ) σ H' → Q z H') → AnyC X f [v, u] H Q
def dMax2 : D → D → Option R
  | .int a, .int b => some (.cl (.int (if b > a then b else a)))
  | _, _ => none
def dMin2 : D → D → Option R
  | .int a, .int b => some (.cl (.int (if b < a then b else a)))
  | _, _ => none
theorem f2_max (hc : X.calm = true) : Fn2 X (.builtin "max") dMax2 := by
  intro B ρ τ σ H Q v u x y r e hs q
  obtain ⟨Hk, w, hI, v1, v2⟩ := st2 hs
  cases hx : x.d <;> cases hy : y.d <;> rw [hx, hy] at e <;> simp only [dMax2, reduceCtorEq, Option.some.injEq] at e <;> rw [hx] at v1 <;> rw [hy] at v2
  subst e
  rw [v1.int_eq, v2.int_eq]
  exact ⟨_, call_max2 hc, _, _, rfl, q _ _ ⟨Hk, w, hI.push (.int _)⟩⟩
theorem f2_min (hc : X.calm = true) : Fn2 X (.builtin "min") dMin2 := by
  intro B ρ τ σ H Q v u x y r e hs q
  obtain ⟨Hk, w, hI, v1, v2⟩ := st2 hs
  cases hx : x.d <;> cases hy : y.d <;> rw [hx, hy] at e <;> simp only [dMin2, reduceCtorEq, Option.some.injEq] at e <;> rw [hx] at v1 <;> rw [hy] at v2
  subst e
  rw [v1.int_eq, v2.int_eq]
  exact ⟨_, call_min2 hc, _, _, rfl, q _ _ ⟨Hk, w, hI.push (.int _)⟩⟩
theorem tr_bi2 {g : D → D → Option R} (hf : Fn2 X (.builtin id) g) (ha : TrE X W a ma) (hb : TrE X W b mb) (hg : Gl X x) (hm : X.mg x = none) (hv : bootBuiltins x = some (.builtin id)) (hn : x ≠ "__name__" := by decide) (hdb : (x == ("__debug__" : Str)) = false := by decide)
    (he : starEach [a, b] X.env = (false, eval a X.env) :: starEach [b] X.env := by rfl) (he2 : starEach [b] X.env = (false, eval b X.env) :: starEach [] X.env := by rfl) (hpl : (backTo pos (starEach [b] X.env)).any (·.1) = false := by rfl) : TrE X W (.Call (.Name x p) [a, b] [] pos) (mOp g ma mb) := fun B ρ τ σ H Q hs q =>
  ⟨tCB (AnyC X (.builtin id)) (tCons (AnyE X a) (tCons (AnyE X b) tNil)), pe_callB call_any hg hm hv (pa_cons pe_any (pa_cons pe_any pa_nil he2) he) hn hdb he hpl,
    two (Post := PostE X.K X.mg B W τ σ Q) ha hb hs q (fun _ _ _ _ h => h) (fun h => h) fun x y ρ' v u H' q' hs' => by
      obtain ⟨r, e, k⟩ := post_opt q'
      exact hf B ρ' τ σ H' Q v u x y r e hs' k⟩
/-! isinstance, of a built-in class -/
def tyN : D → String
  | .non => "NoneType"
  | .bl _ => "bool"
  | .int _ => "int"
  | .str _ => "str"
  | .tup _ => "tuple"
  | .lst _ => "list"
  | .dct _ _ => "dict"
  | _ => "?"
def isiB (T : String) (d : D) : Bool := tyN d == T || (T == "int" && tyN d == "bool")
def dIsi (T : String) (d : D) : Option R := if tyN d == "?" then none else some (.cl (.bl (isiB T d)))
theorem kit_bi {T : String} (hT : T ∈ ["int", "bool", "str", "tuple", "list"]) {d : D} (h : (tyN d == "?") = false) : kitB (tyN d) T = some (isiB T d) := by
  simp only [List.mem_cons, List.not_mem_nil, or_false] at hT
  have all : ∀ t ∈ ["NoneType", "bool", "int", "str", "tuple", "list", "dict"], ∀ T ∈ ["int", "bool", "str", "tuple", "list"], kitB t T = some (t == T || (T == "int" && t == "bool")) := by decide +kernel
  refine all (tyN d) ?_ T ?_
  · cases d <;> simp [tyN] at h ⊢
  · simp only [List.mem_cons, List.not_mem_nil, or_false]; exact hT
theorem tyX_of {K : PySem.W.Frag} {mg : Str → Option Value} {Hk H : Hp} {v : V} {d : D} (e : Ex Hk H) (vw : View K mg Hk H v d) (h : (tyN d == "?") = false) : TyX K H v (.type (tyN d)) := by
  cases d <;> simp [tyN] at h
  · rw [vw.non_eq]; exact .base .non
  · rw [vw.bl_eq]; exact .base (.bl _)
  · rw [vw.int_eq]; exact .base (.int _)
  · rw [vw.str_eq]; exact .base (.str _)
  · obtain ⟨a, xs, rfl, ha, ra⟩ := vw.tup e
    rcases ha with (ha | ⟨o, ha⟩) | ⟨o, its, n, hl, hc, _⟩
    · exact .base (.tup ha)
    · exact .fTuple ha
    · exact .kTuple hl hc
  · obtain ⟨a, xs, rfl, ha, ra⟩ := vw.lst e
    exact .base (.lst ha)
  · rcases vw with h | ⟨p, rfl, h⟩
    · cases h with
      | dct h _ _ => exact .base (.dK (e _ _ h))
    · obtain ⟨kvs, h, _⟩ := h
      exact .base (.dK h)
theorem tr_isi {yT : Str} {pT : Pos} (hT : T ∈ ["int", "bool", "str", "tuple", "list"]) (h : TrV X W a mv) (hg : Gl X "isinstance") (hm : X.mg "isinstance" = none) (hg2 : Gl X yT) (hm2 : X.mg yT = none) (hv2 : bootBuiltins yT = some (.type T)) (hn2 : yT ≠ "__name__" := by decide) (hdb2 : (yT == ("__debug__" : Str)) = false := by decide)
    (he : starEach [a, .Name yT pT] X.env = (false, eval a X.env) :: starEach [.Name yT pT] X.env := by rfl) (he2 : starEach [.Name yT pT] X.env = (false, eval (.Name yT pT) X.env) :: starEach [] X.env := by rfl) (hpl : (backTo pos (starEach [.Name yT pT] X.env)).any (·.1) = false := by rfl) : TrE X W (.Call (.Name "isinstance" p) [a, .Name yT pT] [] pos) (mRd (dIsi T) mv) := by
  intro B ρ τ σ H Q hs q
  refine ⟨tCB (rIsi X.K) (tCons (AnyE X a) (tCons (tC (.ty T)) tNil)), pe_callB call_isi hg hm boot_isinstance (pa_cons pe_any (pa_cons (pe_bltn hg2 hm2 hv2 (v := .ty T) rfl hn2 hdb2) pa_nil he2) he) (by decide) (by decide) he hpl, h B ρ τ σ H _ hs (rd_post (f := fun v H Q => rIsi X.K [v, .ty T] H Q) ?_ q)⟩
  intro B ρ τ σ H Q v d r e ⟨Hk, w, hI, vw⟩ q
  unfold dIsi at e
  cases hz : tyN d == "?" with
  | true => rw [hz] at e; cases e
  | false =>
    rw [hz] at e
    cases e
    exact ⟨v, .ty T, _, .type T, _, rfl, .ty T, tyX_of hI.e1 vw hz, kit_ty (kit_bi hT hz), q _ _ ⟨Hk, w, hI.push (.bl _)⟩⟩
end
end Vy
namespace Vy
open PySem PySem.Spec PyProof.Rows L2
open Evl (Ex)
/-! ### a list of our own is changed in place -/
def upS (i : Nat) (f : List D → Option (D × List D)) : M R := fun ρ => match ρ[i]? with
  | none => .er
  | some sl => match ownD (some sl) with
    | some (.lst ds) => match f ds with
      | none => .er
      | some (d, ds') => match sl.put (.lst ds') with
        | some sl' => .ok (.cl d) (ρ.set i sl')
        | none => .er
    | _ => .er
section
variable {K : PySem.W.Frag} {mg : Str → Option Value} {B : Bs} {Hk H : Hp} {w : Addr → Option Own} {ρ : State} {τ : List (V × R)} {σ : L2.St} {v : V} {i : Nat} {W : WX} {Q : VK}
theorem up_ok {f : List D → Option (D × List D)} (hI : StI K mg B Hk w ρ τ σ H) (hv : σ[i]? = some (some v)) (q : PostE K mg B W τ σ Q (upS i f ρ)) :
    ∃ p xs ds ds' d, v = .ref p ∧ H p = some (.lst xs) ∧ RepL K mg Hk xs ds ∧ f ds = some (d, ds') ∧ ∀ xs' z, RepL K mg Hk xs' ds' → Rep K mg Hk z d → Q z (upd H p (.lst xs')) := by
  unfold upS at q
  cases hr : ρ[i]? with
  | none => rw [hr] at q; exact q.elim
  | some sl =>
    rw [hr] at q
    simp only at q
    cases ho : ownD (some sl) with
    | none => rw [ho] at q; exact q.elim
    | some d0 =>
      rw [ho] at q
      cases d0 <;> first | exact q.elim | skip
      rename_i ds
      simp only at q
      cases hf : f ds with
      | none => rw [hf] at q; exact q.elim
      | some z =>
        obtain ⟨d, ds'⟩ := z
        rw [hf] at q
        simp only at q
        cases hp : sl.put (.lst ds') with
        | none => rw [hp] at q; exact q.elim
        | some sl' =>
          rw [hp] at q
          obtain ⟨p, d1, h1, h2, h3, h4⟩ := hI.mut hr hp
          rw [hv] at h1
          cases h1
          have e : d1 = .lst ds := by
            cases sl <;> simp only [ownD, reduceCtorEq, Option.some.injEq, peekS] at ho h2
            · rw [← h2]; exact ho
            · rw [← h2]; exact ho
          subst e
          obtain ⟨xs, hx, rx⟩ := h3
          refine ⟨p, xs, ds, ds', d, rfl, hx, rx, hf, fun xs' z r1 r2 => ?_⟩
          exact q z _ ⟨Hk, w, (h4 (.lst xs') ⟨xs', upd_same, r1⟩).push r2⟩
end
def MtAny (X : Cx) (id : String) : V → List V → Hp → VK → Prop := fun x xs H Q => ∃ r, MtR X id r ∧ r x xs H Q
theorem mt_any {X : Cx} {id : String} : MtR X id (MtAny X id) := fun pins s σ H x xs v us Q I rx rxs h => by
  obtain ⟨r, hr, h⟩ := h
  exact hr pins s σ H x xs v us Q I rx rxs h
/-- what a changing method does, without an argument / with one / with two -/
def Mt0Ok (X : Cx) (id : String) (f : List D → Option (D × List D)) : Prop := ∀ (Hk H : Hp) p xs ds ds' d (Q : VK), H p = some (.lst xs) → RepL X.K X.mg Hk xs ds → f ds = some (d, ds') →
  (∀ xs' z, RepL X.K X.mg Hk xs' ds' → Rep X.K X.mg Hk z d → Q z (upd H p (.lst xs'))) → MtAny X id (.ref p) [] H Q
def Mt1Ok (X : Cx) (id : String) (f : D → List D → Option (D × List D)) : Prop := ∀ (Hk H : Hp) p xs ds ds' d u y (Q : VK), Ex Hk H → H p = some (.lst xs) → RepL X.K X.mg Hk xs ds → Rep X.K X.mg Hk u y → f y ds = some (d, ds') →
  (∀ xs' z, RepL X.K X.mg Hk xs' ds' → Rep X.K X.mg Hk z d → Q z (upd H p (.lst xs'))) → MtAny X id (.ref p) [u] H Q
def Mt2Ok (X : Cx) (id : String) (f : D → D → List D → Option (D × List D)) : Prop := ∀ (Hk H : Hp) p xs ds ds' d u y u2 y2 (Q : VK), Ex Hk H → H p = some (.lst xs) → RepL X.K X.mg Hk xs ds → Rep X.K X.mg Hk u y → Rep X.K X.mg Hk u2 y2 → f y y2 ds = some (d, ds') →
  (∀ xs' z, RepL X.K X.mg Hk xs' ds' → Rep X.K X.mg Hk z d → Q z (upd H p (.lst xs'))) → MtAny X id (.ref p) [u, u2] H Q
def mM0 (i : Nat) (f : List D → Option (D × List D)) : M R := mPeek i >>= fun d => match d with
  | .lst _ => upS i f
  | _ => M.fail
def mM1 (i : Nat) (f : D → List D → Option (D × List D)) (m : M R) : M R := mPeek i >>= fun d => match d with
  | .lst _ => m >>= fun r => upS i (f r.d)
  | _ => M.fail
def mM2 (i : Nat) (f : D → D → List D → Option (D × List D)) (ma mb : M R) : M R := mPeek i >>= fun d => match d with
  | .lst _ => ma >>= fun r => mb >>= fun r2 => upS i (f r.d r2.d)
  | _ => M.fail
section
variable {X : Cx} {W : WX} {e a b tg : Expr} {es : List Expr} {m ma mb : M R} {mv : M D} {ms : M (List R)} {i j : Nat} {x y name : Str} {pos p p' p0 apos : Pos} {id T : String}
theorem peek_lst {B : Bs} {ρ : State} {τ : List (V × R)} {σ : L2.St} {H : Hp} {ds : List D} {v : V} (hs : St X.K X.mg B ρ τ σ H) (h0 : peekS ρ[i]? = some (.lst ds)) (hv : σ[i]? = some (some v)) : tyV X.K "list" v H := by
  obtain ⟨Hk, w, hI⟩ := hs
  obtain ⟨v', hv', vw⟩ := hI.peek h0
  rw [hv] at hv'; cases hv'
  obtain ⟨a, xs, rfl, ha, _⟩ := vw.lst hI.e1
  exact .inl ⟨rfl, xs, SqL.of ha⟩
theorem tr_m0 {f : List D → Option (D × List D)} (slot : PySem.Slot "list" name id) (hty : typeOf (.builtin id) = pure (.type "method_descriptor")) (hf : Mt0Ok X id f)
    (hN : X.N[i]? = some x := by rfl) (hv : Vis X.env.scope x := by first | exact Or.inl rfl | exact Or.inr (Or.inl rfl) | exact Or.inr (Or.inr rfl)) (hd : (x == ("__debug__" : Str)) = false := by decide) (hcd : (x == ("__classdict__" : Str)) = false := by decide)
    (hbase : attributeBase (.Name x p0) name X.env (eval (.Name x p0) X.env) = eval (.Name x p0) X.env := by rfl) (hline : (apos.endLine == pos.line) = true := by rfl) : TrE X W (.Call (.Attribute (.Name x p0) name apos) [] [] pos) (mM0 i f) := by
  intro B ρ τ σ H Q hs q
  refine ⟨tBM0 X.K "list" (MtAny X id) (tVar i), pe_bm0 PySem.F.plainAttrs_list slot hty mt_any (pe_var hN hv hd hcd) hbase hline, ?_⟩
  obtain ⟨d0, h0, q⟩ := peek_post q
  obtain ⟨v, hv⟩ := hs.peek h0
  cases d0 <;> first | exact q.elim | skip
  refine ⟨v, hv, peek_lst hs h0 hv, ?_⟩
  obtain ⟨Hk, w, hI⟩ := hs
  obtain ⟨p, xs, ds, ds', d, rfl, hx, rx, he, k⟩ := up_ok hI hv q
  exact hf Hk H p xs ds ds' d Q hx rx he k
theorem tr_m1 {f : D → List D → Option (D × List D)} (slot : PySem.Slot "list" name id) (hty : typeOf (.builtin id) = pure (.type "method_descriptor")) (hf : Mt1Ok X id f) (ha : TrE X W a m)
    (hN : X.N[i]? = some x := by rfl) (hv : Vis X.env.scope x := by first | exact Or.inl rfl | exact Or.inr (Or.inl rfl) | exact Or.inr (Or.inr rfl)) (hd : (x == ("__debug__" : Str)) = false := by decide) (hcd : (x == ("__classdict__" : Str)) = false := by decide)
    (hbase : attributeBase (.Name x p0) name X.env (eval (.Name x p0) X.env) = eval (.Name x p0) X.env := by rfl)
    (hfew : ((backTo pos (starEach [a] X.env)).all (fun x => !x.1) && (backToKw pos (keywordEach [] X.env)).all (fun x => x.1.isSome) && decide ([a].length + ([] : List Keyword).length + (if ([] : List Keyword).isEmpty then 0 else 1) < 30)) = true := by rfl)
    (hline : (apos.endLine == pos.line) = true := by rfl) (hse : starEach [a] X.env = (false, eval a X.env) :: starEach [] X.env := by rfl) (hplain : (backTo pos (starEach [] X.env)).any (·.1) = false := by rfl) : TrE X W (.Call (.Attribute (.Name x p0) name apos) [a] [] pos) (mM1 i f m) := by
  intro B ρ τ σ H Q hs q
  refine ⟨tBM X.K "list" (MtAny X id) (tVar i) (tCons (AnyE X a) tNil), pe_bm PySem.F.plainAttrs_list slot hty mt_any (pe_var hN hv hd hcd) (pa_cons pe_any pa_nil hse) hbase hfew hline hse hplain, ?_⟩
  obtain ⟨d0, h0, q⟩ := peek_post q
  obtain ⟨v, hv⟩ := hs.peek h0
  cases d0 <;> first | exact q.elim | skip
  refine ⟨v, hv, peek_lst hs h0 hv, ha B ρ τ σ H _ hs ?_⟩
  have q : PostE X.K X.mg B W τ σ Q ((m ρ).then fun r => upS i (f r.d)) := q
  cases h1 : m ρ with
  | er => rw [h1] at q; exact q
  | ex c ns ds ρ' => rw [h1] at q; exact q
  | ok r ρ1 =>
    rw [h1] at q
    intro u H1 ⟨Hk, w, hI⟩
    obtain ⟨Hk', _, h'⟩ := hI.clean
    have ru : Rep X.K X.mg Hk' u r.d := h'.temps.1
    obtain ⟨p, xs, ds, ds', d, rfl, hx, rx, he, k⟩ := up_ok h'.pop hv q
    exact hf Hk' H1 p xs ds ds' d u r.d Q h'.e1 hx rx ru he k
theorem tr_m2 {f : D → D → List D → Option (D × List D)} (slot : PySem.Slot "list" name id) (hty : typeOf (.builtin id) = pure (.type "method_descriptor")) (hf : Mt2Ok X id f) (ha : TrE X W a ma) (hb : TrE X W b mb)
    (hN : X.N[i]? = some x := by rfl) (hv : Vis X.env.scope x := by first | exact Or.inl rfl | exact Or.inr (Or.inl rfl) | exact Or.inr (Or.inr rfl)) (hd : (x == ("__debug__" : Str)) = false := by decide) (hcd : (x == ("__classdict__" : Str)) = false := by decide)
    (hbase : attributeBase (.Name x p0) name X.env (eval (.Name x p0) X.env) = eval (.Name x p0) X.env := by rfl)
    (hfew : ((backTo pos (starEach [a, b] X.env)).all (fun x => !x.1) && (backToKw pos (keywordEach [] X.env)).all (fun x => x.1.isSome) && decide ([a, b].length + ([] : List Keyword).length + (if ([] : List Keyword).isEmpty then 0 else 1) < 30)) = true := by rfl)
    (hline : (apos.endLine == pos.line) = true := by rfl) (hse : starEach [a, b] X.env = (false, eval a X.env) :: starEach [b] X.env := by rfl) (hse2 : starEach [b] X.env = (false, eval b X.env) :: starEach [] X.env := by rfl) (hplain : (backTo pos (starEach [b] X.env)).any (·.1) = false := by rfl) : TrE X W (.Call (.Attribute (.Name x p0) name apos) [a, b] [] pos) (mM2 i f ma mb) := by
  intro B ρ τ σ H Q hs q
  refine ⟨tBM X.K "list" (MtAny X id) (tVar i) (tCons (AnyE X a) (tCons (AnyE X b) tNil)), pe_bm PySem.F.plainAttrs_list slot hty mt_any (pe_var hN hv hd hcd) (pa_cons pe_any (pa_cons pe_any pa_nil hse2) hse) hbase hfew hline hse hplain, ?_⟩
  obtain ⟨d0, h0, q⟩ := peek_post q
  obtain ⟨v, hv⟩ := hs.peek h0
  cases d0 <;> first | exact q.elim | skip
  refine ⟨v, hv, peek_lst hs h0 hv, ?_⟩
  refine two (Post := PostE X.K X.mg B W τ σ Q) ha hb hs q (fun _ _ _ _ h => h) (fun h => h) fun r r2 ρ' u u2 H' q' hs' => ?_
  obtain ⟨Hk, w, hI⟩ := hs'
  obtain ⟨Hk', _, h', rr⟩ := clean_args (vs := [u, u2]) (rs := [r, r2]) rfl hI
  cases rr with
  | cons ra rr =>
    cases rr with
    | cons rb rr =>
      obtain ⟨p, xs, ds, ds', d, rfl, hx, rx, he, k⟩ := up_ok h' hv q'
      exact hf Hk' H' p xs ds ds' d u r.d u2 r2.d Q h'.e1 hx rx ra rb he k
def fApp (y : D) (ds : List D) : Option (D × List D) := if ds.length < sizeLine then some (.non, ds ++ [y]) else none
def fPop (ds : List D) : Option (D × List D) := ds[ds.length - 1]?.map fun d => (d, ds.dropLast)
def fPopAt (y : D) (ds : List D) : Option (D × List D) := match y with
  | .int i => if -(2 ^ 63) ≤ i ∧ i < 2 ^ 63 then (seqIndex? i ds.length).bind fun k => ds[k]?.map fun d => (d, ds.eraseIdx k) else none
  | _ => none
def fExt (y : D) (ds : List D) : Option (D × List D) := match y with
  | .lst es => if ds.length + es.length ≤ sizeLine then some (.non, ds ++ es) else none
  | _ => none
def fIns (y z : D) (ds : List D) : Option (D × List D) := match y with
  | .int i => if ds.length < sizeLine ∧ 0 ≤ i ∧ i < 2 ^ 63 then some (.non, ds.take i.toNat ++ z :: ds.drop i.toNat) else none
  | _ => none
theorem m1_app : Mt1Ok X "list.append" fApp := by
  intro Hk H p xs ds ds' d u y Q e1 hx rx ru he k
  unfold fApp at he
  split at he
  · rename_i hz
    cases he
    exact ⟨_, mt_append, p, xs, u, rfl, rfl, hx, by rw [rx.len]; exact hz, k _ _ (rx.app (.cons ru .nil)) .non⟩
  · cases he
theorem repL_dropLast {K : PySem.W.Frag} {mg : Str → Option Value} {H : Hp} : ∀ {ds : List D} {vs : List V}, RepL K mg H vs ds → RepL K mg H vs.dropLast ds.dropLast
  | [], _, .nil => .nil
  | [_], _, .cons h .nil => .nil
  | _ :: _ :: _, _, .cons h (.cons g r) => .cons h (repL_dropLast (.cons g r))
theorem m0_pop : Mt0Ok X "list.pop" fPop := by
  intro Hk H p xs ds ds' d Q hx rx he k
  obtain ⟨y, hy, e⟩ := Option.map_eq_some_iff.mp he
  cases e
  obtain ⟨v, hv, rv⟩ := rx.get hy
  exact ⟨_, mt_pop, p, xs, v, rfl, rfl, hx, by rw [rx.len]; exact hv, k _ _ (repL_dropLast rx) rv⟩
theorem m1_popAt : Mt1Ok X "list.pop" fPopAt := by
  intro Hk H p xs ds ds' d u y Q e1 hx rx ru he k
  cases y <;> simp only [fPopAt, reduceCtorEq] at he
  split at he
  · rename_i hz
    obtain ⟨j, hj, he⟩ := Option.bind_eq_some_iff.mp he
    obtain ⟨y, hy, e⟩ := Option.map_eq_some_iff.mp he
    cases e
    obtain ⟨v, hv, rv⟩ := rx.get hy
    rw [ru.int_eq]
    exact ⟨_, mt_popAt, p, xs, _, j, v, rfl, rfl, hx, hz.1, hz.2, by rw [rx.len]; exact hj, hv, k _ _ (rx.eraseIdx j) rv⟩
  · cases he
theorem m1_ext : Mt1Ok X "list.extend" fExt := by
  intro Hk H p xs ds ds' d u y Q e1 hx rx ru he k
  cases y <;> simp only [fExt, reduceCtorEq] at he
  split at he
  · rename_i es hz
    cases he
    cases ru with
    | lst h r =>
      rename_i b zs
      exact ⟨_, mt_extend, p, b, xs, zs, rfl, rfl, hx, e1 _ _ h, by rw [rx.len, r.len]; exact hz, k _ _ (rx.app r) .non⟩
  · cases he
/-! x[i] = v -/
def fSetI (y z : D) (ds : List D) : Option (D × List D) := match y with
  | .int k => (ixN ds.length k).map fun j => (.non, ds.set j z)
  | _ => none
def mSetIx (i : Nat) (mi m : M R) : M Fl := m >>= fun r => mPeek i >>= fun _ => mi >>= fun k => upS i (fSetI k.d r.d) >>= fun _ => pure .nx
theorem trs_setIx {po ps : Pos} (h : TrE X W e m) (hi : TrE X W b mb) (hN : X.N[i]? = some x := by rfl) (hv : Vis X.env.scope x := by first | exact Or.inl rfl | exact Or.inr (Or.inl rfl) | exact Or.inr (Or.inr rfl)) (hd : (x == ("__debug__" : Str)) = false := by decide) (hcd : (x == ("__classdict__" : Str)) = false := by decide)
    (ha : ∀ v, assign (.Subscript (.Name x po) b ps) X.env v = (do
      let ov ← holding [v] (eval (.Name x po) X.env)
      let iv ← holding [v, ov] (eval b X.env)
      standAt ps
      holding [v, ov, iv] (setItem ov iv v)
      release [v, ov, iv] []) := by intro _; rfl) (hs : swapsWithSole [.Subscript (.Name x po) b ps] e pos.line X.env = pure false := by rfl) (hw : swappedStores [.Subscript (.Name x po) b ps] e X.env = pure none := by rfl)
    (h1 : (assignEach [.Subscript (.Name x po) b ps] X.env).map (·.2) = [assign (.Subscript (.Name x po) b ps) X.env] := by rfl) : TrS X W (.Assign [.Subscript (.Name x po) b ps] e pos) (mSetIx i mb m) := by
  intro B ρ τ σ H D hst q
  refine ⟨tAsg (AnyE X e) (gSub (tVar i) (AnyE X b) rSetL), ps_asg pe_any (pg_sub (pe_var hN hv hd hcd) pe_any set_list ha) hs hw h1, h B ρ τ σ H _ hst ?_⟩
  have q : PostS X.K X.mg B W τ D ((m ρ).then fun r => mPeek i >>= fun _ => mb >>= fun k => upS i (fSetI k.d r.d) >>= fun _ => pure .nx) := q
  cases h1 : m ρ with
  | er => rw [h1] at q; exact q
  | ex c ns ds ρ' => rw [h1] at q; exact q σ
  | ok r ρ1 =>
    rw [h1] at q
    intro v H1 hs1
    have q : PostS X.K X.mg B W τ D ((mPeek i ρ1).then fun _ => mb >>= fun k => upS i (fSetI k.d r.d) >>= fun _ => pure .nx) := q
    cases h2 : mPeek i ρ1 with
    | er => rw [h2] at q; exact q.elim
    | ex c ns ds ρ' => unfold mPeek at h2; split at h2 <;> cases h2
    | ok d0 ρ2 =>
      rw [h2] at q
      obtain ⟨h0, e0⟩ := peek_at h2
      rw [e0] at q
      obtain ⟨o, ho⟩ := hs1.peek h0
      refine ⟨o, ho, hi B _ _ σ H1 _ hs1 ?_⟩
      have q : PostS X.K X.mg B W τ D ((mb ρ1).then fun k => upS i (fSetI k.d r.d) >>= fun _ => pure .nx) := q
      cases h3 : mb ρ1 with
      | er => rw [h3] at q; exact q.elim
      | ex c ns ds ρ' => rw [h3] at q; exact q σ
      | ok k ρ3 =>
        rw [h3] at q
        intro u H2 ⟨Hk, w, hI⟩
        obtain ⟨Hk', _, h', rr⟩ := clean_args (vs := [v, u]) (rs := [r, k]) rfl hI
        cases rr with
        | cons ra rr =>
          cases rr with
          | cons rb rr =>
            have q2 : PostE X.K X.mg B W τ σ (fun _ H => D.nx σ H) (upS i (fSetI k.d r.d) ρ3) := by
              have q : PostS X.K X.mg B W τ D ((upS i (fSetI k.d r.d) ρ3).then fun _ => pure .nx) := q
              cases h4 : upS i (fSetI k.d r.d) ρ3 with
              | er => rw [h4] at q; exact q
              | ex c ns ds ρ' => rw [h4] at q; exact q σ
              | ok r0 ρ4 =>
                rw [h4] at q
                intro z H' ⟨Hk, w, hI⟩
                exact q σ H' ⟨Hk, w, hI.pop⟩
            obtain ⟨p, xs, ds, ds', d, rfl, hx, rx, he, kk⟩ := up_ok h' ho q2
            cases hk : k.d <;> simp only [fSetI, hk, reduceCtorEq] at he
            rename_i n
            obtain ⟨j, hj, e⟩ := Option.map_eq_some_iff.mp he
            cases e
            have rb : Rep X.K X.mg Hk' u (.int n) := by rw [← hk]; exact rb
            rw [rb.int_eq]
            exact ⟨p, xs, n, j, rfl, rfl, hx, by rw [rx.len]; exact hj, kk _ .non (rx.set ra j) .non⟩
/-! ### a op b op c -/
def mChain (g g' : D → D → Option R) (ma mb mc : M R) : M R := ma >>= fun x => mb >>= fun y => M.opt (g x.d y.d) >>= fun r => match r.d with
  | .bl true => mc >>= fun z => M.opt (g' y.d z.d)
  | .bl false => pure (.cl (.bl false))
  | _ => M.fail
theorem chain_run {c : Expr} {mc : M R} {op op' : CmpOp} {g g' : D → D → Option R} (ho : OpOk X (compareOp op) g) (ho' : OpOk X (compareOp op') g') (ha : TrE X W a ma) (hb : TrE X W b mb) (hc : TrE X W c mc) {B : Bs} {ρ : State} {τ : List (V × R)} {σ : L2.St} {H : Hp} {Q : VK} (hs : St X.K X.mg B ρ τ σ H)
    (q : PostE X.K X.mg B W τ σ Q (mChain g g' ma mb mc ρ)) : tChain (AnyR X (compareOp op)) (AnyR X (compareOp op')) (AnyE X a) (AnyE X b) (AnyE X c) σ H Q := by
  refine two (Post := PostE X.K X.mg B W τ σ Q) ha hb hs q (fun _ _ _ _ h => h) (fun h => h) fun x y ρ' v u H' q' hs' => ?_
  obtain ⟨Hk, w, hI⟩ := hs'
  obtain ⟨Hk', _, h', rr⟩ := clean_args (vs := [v, u]) (rs := [x, y]) rfl hI
  cases rr with
  | cons ra rr =>
    cases rr with
    | cons rb rr =>
      have q' : PostE X.K X.mg B W τ σ Q ((M.opt (g x.d y.d) ρ').then fun r => match r.d with
        | .bl true => mc >>= fun z => M.opt (g' y.d z.d)
        | .bl false => pure (.cl (.bl false))
        | _ => M.fail) := q'
      cases hg : g x.d y.d with
      | none => rw [hg] at q'; exact q'.elim
      | some r =>
        rw [hg] at q'
        have q' : PostE X.K X.mg B W τ σ Q ((match r.d with
          | .bl true => mc >>= fun z => M.opt (g' y.d z.d)
          | .bl false => pure (.cl (.bl false))
          | _ => M.fail : M R) ρ') := q'
        refine ho B ρ' ((u, .cl y.d) :: τ) σ H' _ v u (.cl x.d) (.cl y.d) r hg ⟨Hk', w, ((h'.push rb).push ra).push rb⟩ fun z H2 ⟨Hk2, w2, h2⟩ => ?_
        have vw := h2.view
        cases hd : r.d <;> rw [hd] at q' vw <;> first | exact q'.elim | skip
        rename_i k
        refine ⟨k, vw.bl_eq, ?_⟩
        cases k with
        | false => rw [if_neg (by decide)]; exact q' _ _ ⟨Hk2, w2, h2.pop.pop.push (.bl false)⟩
        | true =>
          rw [if_pos rfl]
          refine hc B ρ' ((u, .cl y.d) :: τ) σ H2 _ ⟨Hk2, w2, h2.pop⟩ ?_
          have q' : PostE X.K X.mg B W τ σ Q ((mc ρ').then fun z => M.opt (g' y.d z.d)) := q'
          cases h3 : mc ρ' with
          | er => rw [h3] at q'; exact q'
          | ex c ns ds ρ' => rw [h3] at q'; exact q'
          | ok z3 ρ3 =>
            rw [h3] at q'
            intro v3 H3 hs3
            obtain ⟨r, er, kk⟩ := post_opt q'
            exact ho' B ρ3 τ σ H3 Q u v3 (.cl y.d) z3 r er hs3 kk
theorem tr_chain {c : Expr} {mc : M R} {op op' : CmpOp} {g g' : D → D → Option R} (ho : OpOk X (compareOp op) g) (ho' : OpOk X (compareOp op') g') (ha : TrE X W a ma) (hb : TrE X W b mb) (hc : TrE X W c mc)
    (hm : lastMarks [op, op'] [b, c] = false := by with_unfolding_all rfl) : TrE X W (.Compare a [op, op'] [b, c] pos) (mChain g g' ma mb mc) := fun B ρ τ σ H Q hs q =>
  ⟨_, pe_chain op_any op_any pe_any pe_any pe_any hm, chain_run ho ho' ha hb hc hs q⟩
theorem trT_chain {c : Expr} {mc : M R} {op op' : CmpOp} {g g' : D → D → Option R} (ho : OpOk X (compareOp op) g) (ho' : OpOk X (compareOp op') g') (ha : TrE X W a ma) (hb : TrE X W b mb) (hc : TrE X W c mc)
    (hm : lastMarks [op, op'] [b, c] = false := by with_unfolding_all rfl) : TrT X W (.Compare a [op, op'] [b, c] pos) (mBool (mChain g g' ma mb mc)) := fun B ρ τ σ H Q hs q =>
  ⟨_, pt_chain op_any op_any pe_any pe_any pe_any hm, chain_run (Q := fun v H => ∃ k, v = .bl k ∧ Q k H) ho ho' ha hb hc hs (bool_post q)⟩
end
end Vy
namespace Vy
open PySem
open PySem.Sem (wp)
/-! ### enumerate of a tuple, at the model's level -/
theorem drawsTup {prog : Program} {w : World} {A : Around} (hh : A.handled = none) (it l : Addr) (hne : l ≠ it) (items : Array Value) :
    Draws prog w A it [it, l] items.size (fun i v => items[i]? = some v) (fun i h => h.IsTupleIter it l i ∧ h.IsTuple l items) where
  live := fun _ _ st => by obtain ⟨⟨o, ho, _⟩, _⟩ := st; exact ⟨o, ho⟩
  frame := fun _ _ _ st hk => ⟨st.1.at fun o e => hk it (by simp) o e, by obtain ⟨_, o, ho, r⟩ := st; exact ⟨o, hk l (by simp) o ho, r⟩⟩
  item := by
    intro i s Q E hi st hQ
    refine RZ.nextOf_tuple_item st.1 st.2 (x := items[i]) (by simp [hi]) ?_
    intro h' a b
    exact hQ _ h' s.toks (by simp [hi]) ⟨a, st.2.extBut b.extBut hne⟩ b
  done := by
    intro s Q E st hE
    exact RZ.nextOf_tuple_end hh st.1 st.2 (by simp) hE
theorem newEnumT (l : Addr) (items : Array Value) (n : Nat) (cl : Value) (dct : Option Addr) (sl : Array (Option Value)) (hcl : cl = .type "tuple") :
    Meets (Builtin.«enumerate.__new__» ⟨[.type "enumerate", .ref l], []⟩) (fun _ R s => s.heap.get? l = some { cls := cl, dict := dct, data := .seq items n, slots := sl } ∧
      R (.ok (.ret (.ref (s.heap.push { cls := .type "tuple_iterator", data := .fields #[.ref l, .int 0 0] }).objs.size)))
        { s with heap := (s.heap.push { cls := .type "tuple_iterator", data := .fields #[.ref l, .int 0 0] }).push { cls := .type "enumerate", data := .fields #[.none, .bool false, .ref s.heap.objs.size, rawInt 0, .none, .none] } }) :=
  .of_wp fun prog w A R s h => by
    subst hcl
    obtain ⟨hp, g, d, tk, os⟩ := s
    obtain ⟨hl, h⟩ := h
    have hsub := sub_enumerate
    have hL : Heap.IsTuple (Shared.heap ⟨hp, g, d, tk, os⟩) l items := ⟨_, hl, rfl, n, rfl⟩
    wp_walk using AutoSeq1.wpAny_loadPart' hl
    refine wpAny_stack_any fun st => wpAny_pure ?_
    split
    · rename_i c _ _ _ _ _
      by_cases hc : (c == Value.type "enumerate") = true
      · rw [hc]
        wp_walk using AutoSeq1.wpAny_loadPart' hl, wpAny_pyIter_tuple hL
        exact ⟨_, rfl, h⟩
      · rw [Bool.not_eq_true] at hc
        rw [hc]
        wp_walk using AutoSeq1.wpAny_loadPart' hl, wpAny_pyIter_tuple hL
        exact ⟨_, rfl, h⟩
    · wp_walk using AutoSeq1.wpAny_loadPart' hl, wpAny_pyIter_tuple hL
      exact ⟨_, rfl, h⟩
section
variable {prog : Program} {w : World} {A : Around} {E : Value → Shared → Prop} {s : Shared}
theorem callEnumT {l : Addr} {items : Array Value} {Q : Value → Shared → Prop} (hL : s.heap.IsTuple l items)
    (h : ∀ h', IsEnum h' (s.heap.objs.size + 1) s.heap.objs.size 0 .none → h'.IsTupleIter s.heap.objs.size l 0 → (∀ b o, s.heap.get? b = some o → h'.get? b = some o) → Q (.ref (s.heap.objs.size + 1)) { s with heap := h' }) :
    wpAny (model prog w) A (call (.type "enumerate") [.ref l]) Q E s := by
  obtain ⟨o, hl, hc, n, hd⟩ := hL
  have ho : o = { cls := o.cls, dict := o.dict, data := .seq items n, slots := o.slots } := by rw [← hd]
  rw [ho] at hl
  refine callType_new F.called_enumerate (by decide) (F.typeCall_enumerate_1 _) (F.newCall_enumerate_1 _) (fun obj => F.args_object_init_2 obj _) F.entry_enumerate_new (newEnumT l items n _ _ _ hc) ⟨hl, ?_⟩
  have hz : (s.heap.push { cls := .type "tuple_iterator", data := .fields #[.ref l, .int 0 0] }).objs.size = s.heap.objs.size + 1 := Heap.size_push ..
  show _ ∧ _
  rw [hz]
  have he : IsEnum ((s.heap.push { cls := .type "tuple_iterator", data := .fields #[.ref l, .int 0 0] }).push
      { cls := .type "enumerate", data := .fields #[.none, .bool false, .ref s.heap.objs.size, rawInt 0, .none, .none] }) (s.heap.objs.size + 1) s.heap.objs.size 0 .none := by
    have z := Heap.get?_push_size (s.heap.push { cls := .type "tuple_iterator", data := .fields #[.ref l, .int 0 0] })
      (o := { cls := .type "enumerate", data := .fields #[.none, .bool false, .ref s.heap.objs.size, rawInt 0, .none, .none] }) rfl
    rw [hz] at z
    exact z
  exact ⟨⟨_, he, rfl⟩, h _ he ⟨_, Heap.get?_push_of_some _ (Heap.get?_push_size _ rfl), rfl, rfl⟩ fun b o x => Heap.get?_push_of_some _ (Heap.get?_push_of_some _ x)⟩
end
end Vy
namespace Vy
open PySem PySem.Spec PyProof.Rows L2
open Evl (Ex)
/-- the tuple at a, each item in a new pair -/
def IteT (K : PySem.W.Frag) (a : Addr) : It :=
  ⟨fun i H => ∃ (xs : List V) (x : V), SqT K H a xs ∧ xs[i]? = some x, fun i H v H' => ∃ T x, v = .ref T ∧ H T = none ∧ H' = upd H T (.tup [.int (i : Nat), x]) ∧ ∀ xs, SqT K H a xs → xs[i]? = some x, fun i H => ∃ xs : List V, SqT K H a xs ∧ xs.length ≤ i⟩
theorem turn_enumT {P : Program} {w : World} {K : PySem.W.Frag} {elts : List Expr} {kk : Nat} {tpos : Pos} (a e it : Addr) :
    Turn P w K (.Tuple elts kk tpos) (IteT K a) [e, it] e (fun i h => (∃ old, IsEnum h e it ((i : Nat) : Int) old) ∧ h.IsTupleIter it a i ∧ e ≠ it ∧ a ≠ it ∧ a ≠ e) where
  mem := by simp
  obj := fun i h st b hb => by
    obtain ⟨⟨old, he⟩, ⟨o, ho, hc, hd⟩, _⟩ := st
    rcases List.mem_cons.mp hb with rfl | hb
    · exact ⟨_, he, fun v q => nomatch q⟩
    · rw [List.mem_singleton.mp hb]
      exact ⟨o, ho, fun v q => by rw [hd] at q; cases q⟩
  keep := fun i h h' st k => by
    obtain ⟨⟨old, he⟩, hi, r⟩ := st
    exact ⟨⟨old, k e (by simp) _ he⟩, hi.at fun o q => k it (by simp) o q, r⟩
  item := by
    intro X hP hw hK hc i pins s σ H E I hf st hg
    subst hP hw hK
    obtain ⟨⟨old, he⟩, hit, hne, hai, hae⟩ := st
    obtain ⟨xs, x, hq, hx⟩ := hg
    obtain ⟨its, rv, p, hz⟩ := I.tuple hq
    obtain ⟨u, hu, ru⟩ := rv.get hx
    have hel : e < s.heap.objs.size := Heap.lt_size he
    have hil : it < s.heap.objs.size := by obtain ⟨_, q, _⟩ := hit; exact Heap.lt_size q
    have hlt : i < its.toArray.size := by
      have := (List.getElem?_eq_some_iff.mp hu).1
      simpa using this
    refine wpAny_pyNext_enum_itemD (drawsTup (by show X.A.in1.handled = none; exact I.ok.hd hc) it a hai its.toArray) he ⟨hit, p⟩ hlt hne (by simp; exact ⟨hne, fun z => hae z.symm⟩) fun x' h' tk hP ho hst hT hsz hk => ?_
    have ex : x' = u := by
      rw [← Array.getElem?_toList] at hP
      have hu2 : its.toArray.toList[i]? = some u := by simpa using hu
      rw [hu2] at hP
      cases hP; rfl
    subst ex
    refine ⟨_, rfl, wpAny_letOwnedTupleGo_enum (s := { s with heap := h', toks := tk + 1 }) ho fun h'' he' sb => ?_⟩
    have hT2 : h''.get? s.heap.objs.size = some { cls := .type "tuple", data := .seq #[.int i tk, x'] } := (sb.2 _ (Nat.ne_of_gt hel)).trans hT
    have new : ObjOk X.prog X.w (upd H s.heap.objs.size (.tup [.int (i : Nat), x])) h'' s.heap.objs.size (.tup [.int (i : Nat), x]) :=
      ⟨by show 2 ≤ sizeLine; decide, [.int i tk, x'], .cons ⟨_, rfl⟩ (.cons ru .nil), ⟨_, hT2, rfl, _, rfl⟩⟩
    have I1 : Inv X pins σ (upd H s.heap.objs.size (.tup [.int (i : Nat), x])) { s with heap := h'', toks := tk + 1 } :=
      I.turnedNew (ch := [e, it]) (fun b ob hb q => (sb.2 b (fun z => hb (by simp [z]))).trans (hk b ob (fun z => hb (by simp [z])) (fun z => hb (by simp [z])) q)) hf (Nat.le_refl _) new
    refine ⟨.ref s.heap.objs.size, _, I1, rfl, ⟨_, x, rfl, I.hok.fresh (Nat.le_refl _), rfl, fun ys hy => by rw [I.tuple_inj hy hq]; exact hx⟩, ⟨⟨x', ?_⟩, hst.1.at fun o q => (sb.2 it (Ne.symm hne)).trans q, hne, hai, hae⟩, fun b hb => ?_⟩
    · have e1 : ((i + 1 : Nat) : Int) = (i : Int) + 1 := by omega
      rw [e1]; exact he'
    · have hb' : b < s.heap.objs.size := by
        rcases List.mem_cons.mp hb with rfl | hb
        · exact hel
        · rw [List.mem_singleton.mp hb]; exact hil
      rw [upd_ne (Nat.ne_of_lt hb')]
      exact (hf b hb).1
  done := by
    intro X hP hw hK hc i pins s σ H E I hf st hg
    subst hP hw hK
    obtain ⟨⟨old, he⟩, hit, hne, hai, hae⟩ := st
    obtain ⟨xs, hq, hx⟩ := hg
    obtain ⟨its, rv, p, hz⟩ := I.tuple hq
    obtain ⟨f0, f1, f2, f3, f4, f5⟩ := hf it (by simp)
    have hl := rv.length
    have hT : s.TypeIs (.ref e) "enumerate" := ⟨_, he, rfl⟩
    unfold pyNext
    refine wpAny_bind (wpAny_attempt (wpAny_callSpecial?_slot (name := Str.ofString "__next__") hT PySem.F.slot_enumerate_next (wpAny_call_entry PySem.F.slot_enumerate_next hT PySem.F.entry_enumerate_next ?_ (PySem.F.args_enumerate_next_1 _))))
    show wpAny _ _ (field (.ref e) 2 >>= _) _ _ _
    refine wpAny_bind (wpAny_field he rfl (x := .ref it) rfl (wpAny_bind (RZ.nextOf_tuple_end (by show X.A.in1.handled = none; exact I.ok.hd hc) hit p (by simp; omega) fun h' x he' hx' => ?_)))
    obtain ⟨o, ho, hcl⟩ := hx'
    refine wpAny_bind (wpAny_isInstance (T := "StopIteration") (b := true) ⟨o, ho, hcl⟩ isSubtype_stop ?_)
    exact wpAny_pure ⟨rfl, I.turned (t' := s.toks) (fun b o hb q => he' b o hb q) f0 f1 f3 f4 f5⟩
  self := fun A i s Q E st h => by obtain ⟨⟨_, he⟩, _⟩ := st; exact wpAny_pyIter_enum he h
def iEnumT (K : PySem.W.Frag) (ta : TA) : TI := fun σ H R => ta σ H fun vs H1 => ∃ a xs, vs = [.ref a] ∧ SqT K H1 a xs ∧ R (IteT K a) H1
theorem pi_enumT {X : Cx} {e : Expr} {ta : TA} {p pos tpos : Pos} {elts : List Expr} {kk : Nat} (hg : Gl X "enumerate") (hm : X.mg "enumerate" = none) (ha : PA X [e] ta) (hs : starEach [e] X.env = [(false, eval e X.env)] := by rfl) :
    PI X (.Tuple elts kk tpos) (.Call (.Name "enumerate" p) [e] [] pos) (iEnumT X.K ta) := by
  constructor
  intro pins s σ H R I h
  refine Call_ (ld_blt I hg hm boot_enumerate (PyProof.Rows.callWith_type1 (thn (ha.run pos pins s σ H _ I h) ?_) hs rfl))
  rintro us s1 ⟨vs, H1, I1, r1, a, xs, rfl, hq, q⟩
  cases r1 with
  | cons r rr =>
    cases rr
    cases r
    obtain ⟨its, rv, p', hz⟩ := I1.tuple hq
    have hal : a < s1.heap.objs.size := by obtain ⟨_, z, _⟩ := p'; exact Heap.lt_size z
    refine callEnumT p' fun h' he hit hk => wpAny_pyIter_enum he ?_
    have I2 : Inv X pins σ H1 { s1 with heap := h' } := I1.kept (t' := s1.toks) hk
    refine ⟨s1.heap.objs.size + 1, [s1.heap.objs.size + 1, s1.heap.objs.size], _, _, H1, rfl, I2, turn_enumT a (s1.heap.objs.size + 1) s1.heap.objs.size, ⟨⟨.none, he⟩, hit, Nat.succ_ne_self _, Nat.ne_of_lt hal, Nat.ne_of_lt (Nat.lt_succ_of_lt hal)⟩, fun b hb => ?_, q⟩
    have hle : s1.heap.objs.size ≤ b := by
      rcases List.mem_cons.mp hb with rfl | hb
      · exact Nat.le_succ _
      · rw [List.mem_singleton.mp hb]; exact Nat.le_refl _
    exact I1.fpOk hle (I1.hok.fresh hle)
/-! ### by value -/
def enumD (ds : List D) : List D := ds.zipIdx.map fun p => .tup [.int (p.2 : Nat), p.1]
def zipD (xs ys : List D) : List D := (xs.zip ys).map fun p => .tup [p.1, p.2]
theorem enumD_at {ds : List D} {i : Nat} {d : D} (h : (enumD ds)[i]? = some d) : ∃ x, ds[i]? = some x ∧ d = .tup [.int (i : Nat), x] := by
  unfold enumD at h
  rw [List.getElem?_map, List.getElem?_zipIdx] at h
  cases hx : ds[i]? with
  | none => rw [hx] at h; cases h
  | some x =>
    rw [hx] at h
    cases h
    exact ⟨x, rfl, by simp⟩
theorem enumD_len (ds : List D) : (enumD ds).length = ds.length := by simp [enumD]
section
variable {K : PySem.W.Frag} {mg : Str → Option Value} {B : Bs}
theorem it_enum {a : Addr} {r : R} {ds : List D} (e : r.d = .lst ds) : ItOk K mg B (Ite K a) [(.ref a, r)] (enumD ds) := by
  intro i ρ T0 τ σ H ⟨Hk, w, h⟩
  have vw := (h.temps.get (T0 := T0)).view
  rw [e] at vw
  obtain ⟨a', xs, ea, ha, ra⟩ := vw.lst h.e1
  cases ea
  refine ⟨fun d hd => ?_, fun hl => ⟨xs, SqL.of ha, by rw [ra.len, ← enumD_len]; exact hl⟩⟩
  obtain ⟨x, hx, rfl⟩ := enumD_at hd
  obtain ⟨v, hv, rv⟩ := ra.get hx
  refine ⟨⟨xs, v, SqL.of ha, hv⟩, ?_⟩
  rintro y H' ⟨T, z, rfl, hT, rfl, hz⟩
  have hz := hz xs (SqL.of ha)
  rw [hv] at hz; cases hz
  have ek : Ex Hk (upd Hk T (.tup [.int (i : Nat), v])) := Ex.new (Evl.fresh_back h.e1 hT)
  exact ⟨_, w, (h.laidK hT).push (.tup (.inl (.inl upd_same)) (.cons (.int _) (.cons (rv.up ek) .nil)))⟩
theorem it_enumT {a : Addr} {r : R} {ds : List D} (e : r.d = .tup ds) : ItOk K mg B (IteT K a) [(.ref a, r)] (enumD ds) := by
  intro i ρ T0 τ σ H ⟨Hk, w, h⟩
  have vw := (h.temps.get (T0 := T0)).view
  rw [e] at vw
  obtain ⟨a', xs, ea, ha, ra⟩ := vw.tup h.e1
  cases ea
  refine ⟨fun d hd => ?_, fun hl => ⟨xs, ha, by rw [ra.len, ← enumD_len]; exact hl⟩⟩
  obtain ⟨x, hx, rfl⟩ := enumD_at hd
  obtain ⟨v, hv, rv⟩ := ra.get hx
  refine ⟨⟨xs, v, ha, hv⟩, ?_⟩
  rintro y H' ⟨T, z, rfl, hT, rfl, hz⟩
  have hz := hz xs ha
  rw [hv] at hz; cases hz
  have ek : Ex Hk (upd Hk T (.tup [.int (i : Nat), v])) := Ex.new (Evl.fresh_back h.e1 hT)
  exact ⟨_, w, (h.laidK hT).push (.tup (.inl (.inl upd_same)) (.cons (.int _) (.cons (rv.up ek) .nil)))⟩
theorem zipD_at {xs ys : List D} {i : Nat} {d : D} (h : (zipD xs ys)[i]? = some d) : ∃ x y, xs[i]? = some x ∧ ys[i]? = some y ∧ d = .tup [x, y] := by
  unfold zipD at h
  rw [List.getElem?_map] at h
  obtain ⟨p, hp, rfl⟩ := Option.map_eq_some_iff.mp h
  rw [List.getElem?_zip_eq_some] at hp
  exact ⟨_, _, hp.1, hp.2, rfl⟩
theorem it_zip {a b : Addr} {r r2 : R} {ds es : List D} (e : r.d = .lst ds) (e2 : r2.d = .lst es) : ItOk K mg B (Itz K a b) [(.ref b, r2), (.ref a, r)] (zipD ds es) := by
  intro i ρ T0 τ σ H ⟨Hk, w, h⟩
  have vw := (TempsOk.get (T0 := T0 ++ [(V.ref b, r2)]) (v := V.ref a) (r := r) (τ := τ) (by simpa using h.temps)).view
  have vw2 := (h.temps.get (T0 := T0)).view
  rw [e] at vw
  rw [e2] at vw2
  obtain ⟨a', xs, ea, ha, ra⟩ := vw.lst h.e1
  obtain ⟨b', ys, eb, hb, rb⟩ := vw2.lst h.e1
  cases ea
  cases eb
  refine ⟨fun d hd => ?_, fun hl => ⟨xs, ys, SqL.of ha, SqL.of hb, ?_⟩⟩
  · obtain ⟨x, y, hx, hy, rfl⟩ := zipD_at hd
    obtain ⟨v, hv, rv⟩ := ra.get hx
    obtain ⟨u, hu, ru⟩ := rb.get hy
    refine ⟨⟨xs, ys, v, u, SqL.of ha, SqL.of hb, hv, hu⟩, ?_⟩
    rintro y H' ⟨T, z, z2, rfl, hT, rfl, hz, hz2⟩
    have hz := hz xs (SqL.of ha)
    have hz2 := hz2 ys (SqL.of hb)
    rw [hv] at hz; cases hz
    rw [hu] at hz2; cases hz2
    have ek : Ex Hk (upd Hk T (.tup [v, u])) := Ex.new (Evl.fresh_back h.e1 hT)
    exact ⟨_, w, (h.laidK hT).push (.tup (.inl (.inl upd_same)) (.cons (rv.up ek) (.cons (ru.up ek) .nil)))⟩
  · rw [ra.len, rb.len]
    simp only [zipD, List.length_map, List.length_zip] at hl
    omega
theorem it_zipT {a b : Addr} {r r2 : R} {ds es : List D} (e : r.d = .tup ds) (e2 : r2.d = .tup es) : ItOk K mg B (RZ.ItzT K a b) [(.ref b, r2), (.ref a, r)] (zipD ds es) := by
  intro i ρ T0 τ σ H ⟨Hk, w, h⟩
  have vw := (TempsOk.get (T0 := T0 ++ [(V.ref b, r2)]) (v := V.ref a) (r := r) (τ := τ) (by simpa using h.temps)).view
  have vw2 := (h.temps.get (T0 := T0)).view
  rw [e] at vw
  rw [e2] at vw2
  obtain ⟨a', xs, ea, ha, ra⟩ := vw.tup h.e1
  obtain ⟨b', ys, eb, hb, rb⟩ := vw2.tup h.e1
  cases ea
  cases eb
  refine ⟨fun d hd => ?_, fun hl => ⟨xs, ys, ha, hb, ?_⟩⟩
  · obtain ⟨x, y, hx, hy, rfl⟩ := zipD_at hd
    obtain ⟨v, hv, rv⟩ := ra.get hx
    obtain ⟨u, hu, ru⟩ := rb.get hy
    refine ⟨⟨xs, ys, v, u, ha, hb, hv, hu⟩, ?_⟩
    rintro y H' ⟨T, z, z2, rfl, hT, rfl, hz, hz2⟩
    have hz := hz xs ha
    have hz2 := hz2 ys hb
    rw [hv] at hz; cases hz
    rw [hu] at hz2; cases hz2
    have ek : Ex Hk (upd Hk T (.tup [v, u])) := Ex.new (Evl.fresh_back h.e1 hT)
    exact ⟨_, w, (h.laidK hT).push (.tup (.inl (.inl upd_same)) (.cons (rv.up ek) (.cons (ru.up ek) .nil)))⟩
  · rw [ra.len, rb.len]
    simp only [zipD, List.length_map, List.length_zip] at hl
    omega
end
def seqOf : D → Option (List D)
  | .lst ds => some ds
  | .tup ds => some ds
  | _ => none
def mEnum (m : M R) : M (List D) := m >>= fun r => M.opt ((seqOf r.d).map enumD)
def zip2 : D → D → Option (List D)
  | .lst xs, .lst ys => some (zipD xs ys)
  | .tup xs, .tup ys => some (zipD xs ys)
  | _, _ => none
def mZip (ma mb : M R) : M (List D) := ma >>= fun x => mb >>= fun y => M.opt (zip2 x.d y.d)
section
variable {X : Cx} {W : WX} {e a b tg : Expr} {es elts : List Expr} {m ma mb : M R} {mv : M D} {ms : M (List R)} {i j kk : Nat} {x y z : Str} {pos p p' p0 apos tpos : Pos} {id T : String}
theorem tri_enum (ha : TrE X W a ma) (hg : Gl X "enumerate") (hm : X.mg "enumerate" = none) (hse : starEach [a] X.env = [(false, eval a X.env)] := by rfl) : TrI X W (.Tuple elts kk tpos) (.Call (.Name "enumerate" p) [a] [] pos) (mEnum ma) := by
  intro B ρ τ σ H Q hs q
  have q : PostI X.K X.mg B W τ σ Q ((ma ρ).then fun r => M.opt ((seqOf r.d).map enumD)) := q
  have lst : ∀ c ns ds ρ', ma ρ = .ex c ns ds ρ' → PostX X.K X.mg B W σ c ns ds ρ' → AnyI X (.Tuple elts kk tpos) (.Call (.Name "enumerate" p) [a] [] pos) σ H Q := fun c ns ds ρ' h1 q =>
    ⟨iEnum X.K (tCons (AnyE X a) tNil), pi_enum hg hm (pa_cons pe_any pa_nil hse) hse, ha B ρ τ σ H _ hs (by rw [h1]; exact q)⟩
  cases h1 : ma ρ with
  | er => rw [h1] at q; exact q.elim
  | ex c ns ds ρ' => rw [h1] at q; exact lst c ns ds ρ' h1 q
  | ok r ρ1 =>
    rw [h1] at q
    obtain ⟨items, ei, k⟩ := opt_postI q
    obtain ⟨ds, hd, rfl⟩ := Option.map_eq_some_iff.mp ei
    cases hr : r.d <;> rw [hr] at hd <;> simp only [seqOf, reduceCtorEq, Option.some.injEq] at hd <;> subst hd
    · refine ⟨iEnumT X.K (tCons (AnyE X a) tNil), pi_enumT hg hm (pa_cons pe_any pa_nil hse) hse, ha B ρ τ σ H _ hs ?_⟩
      rw [h1]
      intro v H' ⟨Hk, w, hI⟩
      have vw := hI.view
      rw [hr] at vw
      obtain ⟨a, xs, rfl, hx, ra⟩ := vw.tup hI.e1
      exact ⟨a, xs, rfl, hx, k _ [(.ref a, r)] H' (it_enumT hr) ⟨Hk, w, hI⟩⟩
    · refine ⟨iEnum X.K (tCons (AnyE X a) tNil), pi_enum hg hm (pa_cons pe_any pa_nil hse) hse, ha B ρ τ σ H _ hs ?_⟩
      rw [h1]
      intro v H' ⟨Hk, w, hI⟩
      have vw := hI.view
      rw [hr] at vw
      obtain ⟨a, xs, rfl, hx, ra⟩ := vw.lst hI.e1
      exact ⟨a, xs, rfl, SqL.of hx, k _ [(.ref a, r)] H' (it_enum hr) ⟨Hk, w, hI⟩⟩
theorem tri_zip (ha : TrE X W a ma) (hb : TrE X W b mb) (hg : Gl X "zip") (hm : X.mg "zip" = none) (hse : starEach [a, b] X.env = (false, eval a X.env) :: starEach [b] X.env := by rfl) (hse2 : starEach [b] X.env = [(false, eval b X.env)] := by rfl) (hpl : (backTo pos (starEach [b] X.env)).any (·.1) = false := by rfl) :
    TrI X W (.Tuple elts kk tpos) (.Call (.Name "zip" p) [a, b] [] pos) (mZip ma mb) := by
  intro B ρ τ σ H Q hs q
  refine ⟨RZ.iZipA X.K (tCons (AnyE X a) (tCons (AnyE X b) tNil)), RZ.pi_zipA hg hm (pa_cons pe_any (pa_cons pe_any pa_nil hse2) hse) hse hpl, ?_⟩
  refine two (Post := PostI X.K X.mg B W τ σ Q) ha hb hs q (fun _ _ _ _ h => h) (fun h => h) fun r r2 ρ' v u H' q' hs' => ?_
  obtain ⟨items, ei, k⟩ := opt_postI q'
  obtain ⟨Hk, w, hI⟩ := hs'
  have vw := hI.pop.view
  have vw2 := hI.view
  cases hr : r.d <;> cases hr2 : r2.d <;> rw [hr, hr2] at ei <;> simp only [zip2, reduceCtorEq, Option.some.injEq] at ei <;> subst ei <;> rw [hr] at vw <;> rw [hr2] at vw2
  · obtain ⟨a, xs, rfl, hx, ra⟩ := vw.tup hI.e1
    obtain ⟨b, ys, rfl, hy, rb⟩ := vw2.tup hI.e1
    exact ⟨a, b, xs, ys, rfl, .inr ⟨hx, hy, k _ [(.ref b, r2), (.ref a, r)] H' (it_zipT hr hr2) ⟨Hk, w, hI⟩⟩⟩
  · obtain ⟨a, xs, rfl, hx, ra⟩ := vw.lst hI.e1
    obtain ⟨b, ys, rfl, hy, rb⟩ := vw2.lst hI.e1
    exact ⟨a, b, xs, ys, rfl, .inl ⟨SqL.of hx, SqL.of hy, k _ [(.ref b, r2), (.ref a, r)] H' (it_zip hr hr2) ⟨Hk, w, hI⟩⟩⟩
/-! x[::-1] -/
def dRev : D → Option R
  | .lst ds => some (.fr (.lst ds.reverse))
  | _ => none
theorem tr_rev {kI : Nat} {q1 q2 q3 : Pos} (h : TrV X W e mv) : TrE X W (.Subscript e (.Slice none none (some (.UnaryOp .USub (.Constant (.int 1) kI q1) q2)) q3) pos) (mRd dRev mv) := by
  intro B ρ τ σ H Q hs q
  refine ⟨tRevL X.K (AnyE X e), pe_revL pe_any, h B ρ τ σ H _ hs (rd_post (f := fun v H Q => ∃ a xs, v = .ref a ∧ SqL X.K H a xs ∧ ∀ p, H p = none → Q (.ref p) (upd H p (.lst xs.reverse))) ?_ q)⟩
  intro B ρ τ σ H Q v d r e ⟨Hk, w, hI, vw⟩ q
  cases d <;> simp only [dRev, reduceCtorEq, Option.some.injEq] at e
  subst e
  obtain ⟨a, xs, rfl, hx, ra⟩ := vw.lst hI.e1
  exact ⟨a, xs, rfl, SqL.of hx, fun p hp => q _ _ ⟨_, _, hI.laidO hp ⟨_, upd_same, ra.rev⟩⟩⟩
/-! x in y -/
def dInB (x y : D) : Option Bool := match x.py, y with
  | some d, .lst ys => match pyL ys with
    | some ds => if SeqAt.shaped d && SeqAt.shaped (.list ds) then some (ds.any fun z => PyData.eqv z d) else none
    | none => none
  | _, _ => none
def dIn (x y : D) : Option R := (dInB x y).map bR
def dNotIn (x y : D) : Option R := (dInB x y).map fun b => bR (!b)
theorem in_parts {x y : D} {c : Bool} (h : dInB x y = some c) : ∃ d ys ds, x.py = some d ∧ y = .lst ys ∧ pyL ys = some ds ∧ SeqAt.shaped d = true ∧ SeqAt.shaped (.list ds) = true ∧ c = ds.any fun z => PyData.eqv z d := by
  unfold dInB at h
  split at h
  · rename_i d ys hd
    cases hp : pyL ys with
    | none => rw [hp] at h; cases h
    | some ds =>
      rw [hp] at h
      simp only at h
      split at h
      · rename_i hz
        cases h
        obtain ⟨z1, z2⟩ := Bool.and_eq_true_iff.mp hz
        exact ⟨d, ys, ds, hd, rfl, hp, z1, z2, rfl⟩
      · cases h
  · cases h
theorem ok_in {k : Nat} (xr : XR k X) : OpOk X (compareOp .In) dIn := by
  intro B ρ τ σ H Q v u x y r e hs q
  obtain ⟨c, hc, rfl⟩ := Option.map_eq_some_iff.mp e
  obtain ⟨d, ys, ds, h1, h2, h3, h4, h5, rfl⟩ := in_parts hc
  obtain ⟨Hk, w, hI, v1, v2⟩ := st2 hs
  have hu := xr.hu2
  rw [h2] at v2
  exact ⟨_, op_inD (by omega), d, ds, v1.dp hI.e1 h1, v2.dp hI.e1 (by simp [D.py, h3]), h4, h5, q _ _ ⟨Hk, w, hI.push (.bl _)⟩⟩
theorem ok_notIn {k : Nat} (xr : XR k X) : OpOk X (compareOp .NotIn) dNotIn := by
  intro B ρ τ σ H Q v u x y r e hs q
  obtain ⟨c, hc, rfl⟩ := Option.map_eq_some_iff.mp e
  obtain ⟨d, ys, ds, h1, h2, h3, h4, h5, rfl⟩ := in_parts hc
  obtain ⟨Hk, w, hI, v1, v2⟩ := st2 hs
  have hu := xr.hu2
  rw [h2] at v2
  exact ⟨_, op_notInD (by omega), d, ds, v1.dp hI.e1 h1, v2.dp hI.e1 (by simp [D.py, h3]), h4, h5, q _ _ ⟨Hk, w, hI.push (.bl _)⟩⟩
end
end Vy
/-! ### tuples of ints put in order: what the model does -/
namespace Vy
open PySem PySem.Spec PyProof.Rows L2
open PySem.W (EachIs dataLe Reads.keepBut)
open Evl (Ex)
abbrev Rw := Addr × List Int
def refsOf (L : List Rw) : List Value := L.map fun q => Value.ref q.1
def rowEnc (q : Rw) : PyData := .tuple (q.2.map .int)
theorem perm_back {α β : Type} {f : α → β} {l1 l2 : List β} (h : l1.Perm l2) : ∀ L : List α, l2 = L.map f → ∃ L1 : List α, L1.Perm L ∧ l1 = L1.map f := by
  induction h with
  | nil => exact fun L e => ⟨L, .refl _, e⟩
  | cons x _ ih =>
    intro L e
    cases L with
    | nil => cases e
    | cons y L =>
      cases e
      obtain ⟨L1, p, e1⟩ := ih L rfl
      exact ⟨y :: L1, p.cons y, by rw [List.map_cons, ← e1]⟩
  | swap x y l =>
    intro L e
    match L, e with
    | a :: b :: L, e =>
      cases e
      exact ⟨b :: a :: L, .swap _ _ _, rfl⟩
    | [_], e => cases e
    | [], e => cases e
  | trans _ _ i1 i2 =>
    intro L e
    obtain ⟨L2', p2, e2⟩ := i2 L e
    obtain ⟨L1, p1, e1⟩ := i1 L2' e2
    exact ⟨L1, p1.trans p2, e1⟩
section
variable {P : Program} {w : World} {A : Around} {E : Value → Shared → Prop} {s : Shared}
theorem reads_ints {h : Heap} : ∀ {us : List Value} {k : List Int}, ItemsAre (intKind P w) k us → ReadsAll h us (k.map .int) []
  | _, _, .nil => .nil
  | _, _, .cons (k := i) h1 t => by
    obtain ⟨tk, rfl⟩ := Value.isInt_shape h1
    exact ReadsAll.cons (as := []) (bs := []) (.int _ _) (reads_ints t)
theorem reads_row {h : Heap} {q : Rw} (x : IsT P w h q.2 q.1) : Reads h (.ref q.1) (rowEnc q) [] := by
  obtain ⟨o, items, n, ho, hc, hd, hi⟩ := x
  exact .tuple ho hc hd (reads_ints hi)
theorem row_order (p q : Rw) : dataLe false rowEnc p q = true → ¬ q.2 < p.2 := by
  rw [PySem.W.dataLe_eq]
  simp only [cond_false, rowEnc]
  rw [PySem.W.dataLt_tuple]
  have e : PyProof.Rows.lexLt PyProof.Rows.itemOrd (PySem.W.keyToksAll (q.2.map .int)) (PySem.W.keyToksAll (p.2.map .int)) = decide (q.2 < p.2) := PySem.W.dataLt_ints q.2 p.2
  rw [e]
  simp
theorem sort_rows {a : Addr} {n : Nat} {L : List Rw} {Q : Value → Shared → Prop} (ho : s.heap.get? a = some (seqObj "list" (refsOf L).toArray n)) (ht : ∀ q ∈ L, IsT P w s.heap q.2 q.1) (hne : ∀ q ∈ L, q.2 ≠ []) (hL : L.length ≤ sizeLine) (hu : A.units + 3 < cLine)
    (h : ∀ L' : List Rw, L'.Perm L → L'.Pairwise (fun q r => ¬ r.2 < q.2) → Q .none { s with heap := sortedHeap s.heap a (refsOf L) (refsOf L').toArray }) : wpAny (model P w) A (call (.builtin "list.sort") [.ref a]) Q E s := by
  have each : ∀ (M : List Rw), (∀ q ∈ M, IsT P w s.heap q.2 q.1) → EachIs (fun v q => ∃ as, Reads s.heap v (rowEnc q) as ∧ a ∉ as) (refsOf M) M := by
    intro M
    induction M with
    | nil => exact fun _ => .nil
    | cons q M ih => exact fun hm => .cons ⟨[], reads_row (hm q List.mem_cons_self), by simp⟩ (ih fun r hr => hm r (List.mem_cons_of_mem _ hr))
  have refs : ∀ (M : List Rw), EachIs (fun v (q : Rw) => v = Value.ref q.1) (refsOf M) M := by
    intro M
    induction M with
    | nil => exact .nil
    | cons q M ih => exact .cons rfl ih
  have unref : ∀ {out : List Value} {M : List Rw}, EachIs (fun v (q : Rw) => v = Value.ref q.1) out M → out = refsOf M := by
    intro out M hm
    induction hm with
    | nil => rfl
    | cons e _ ih => rw [e, ih]; rfl
  refine PySem.W.list_sort_data (enc := rowEnc) ho (refs L) (each L ht) (PySem.W.AllAlike.of fun b b' => ?_) (.inl fun d hd => ?_) hL (fun b _ => ?_) fun out _ he => ?_
  · show PySem.W.alike (.tuple (b.2.map .int)) (.tuple (b'.2.map .int)) = true
    simp only [PySem.W.alike]
    exact PySem.W.alike_ints _ _
  · obtain ⟨q, hq, rfl⟩ := List.mem_map.mp hd
    have := hne q hq
    unfold rowEnc
    cases hk : q.2 with
    | nil => exact absurd hk this
    | cons x r => exact ⟨_, _, rfl⟩
  · show A.units + 1 + (PyData.tuple (b.2.map .int)).depth < cLine
    simp only [PyData.depth]
    rw [PySem.W.depth_ints]
    omega
  · rw [unref he]
    refine h _ (List.mergeSort_perm _ _) ?_
    have O : ∀ p q r : Rw, dataLe false rowEnc p q = true → dataLe false rowEnc q r = true → dataLe false rowEnc p r = true := fun p q r h1 h2 => by
      rw [PySem.W.dataLe_eq] at h1 h2 ⊢
      simp only [cond_false, rowEnc, PySem.W.dataLt_tuple] at h1 h2 ⊢
      have e : ∀ p q : Rw, PyProof.Rows.lexLt PyProof.Rows.itemOrd (PySem.W.keyToksAll (q.2.map .int)) (PySem.W.keyToksAll (p.2.map .int)) = decide (q.2 < p.2) := fun p q => PySem.W.dataLt_ints q.2 p.2
      rw [e] at h1 h2 ⊢
      simp only [Bool.not_eq_true', decide_eq_false_iff_not] at h1 h2 ⊢
      rw [List.not_lt] at h1 h2 ⊢
      exact List.le_trans h1 h2
    have T : ∀ p q : Rw, (dataLe false rowEnc p q || dataLe false rowEnc q p) = true := fun p q => by
      rw [PySem.W.dataLe_eq]
      simp only [cond_false, rowEnc, PySem.W.dataLt_tuple]
      have e : ∀ p q : Rw, PyProof.Rows.lexLt PyProof.Rows.itemOrd (PySem.W.keyToksAll (q.2.map .int)) (PySem.W.keyToksAll (p.2.map .int)) = decide (q.2 < p.2) := fun p q => PySem.W.dataLt_ints q.2 p.2
      rw [e, e]
      simp only [Bool.or_eq_true, Bool.not_eq_true', decide_eq_false_iff_not, List.not_lt]
      exact List.le_total _ _
    exact (List.pairwise_mergeSort O T L).imp fun h => row_order _ _ h
/-- sorted of what gives those rows, in any order -/
theorem sorted_src {x : Value} {L : List Rw} {Q : Value → Shared → Prop} (hne : ∀ q ∈ L, q.2 ≠ []) (ht : ∀ q ∈ L, IsT P w s.heap q.2 q.1) (hL : L.length ≤ sizeLine) (hu : A.units + 4 < cLine)
    (col : ∀ (E' : Value → Shared → Prop) (R : List Value → Shared → Prop), (∀ (vs : List Value) (s1 : Shared), (∀ b o, s.heap.get? b = some o → s1.heap.get? b = some o) → s1.gens = s.gens → s1.os = s.os → vs.Perm (refsOf L) → R vs s1) → wpAny (model P w) A.in1 (collect x) R E' s)
    (hQ : ∀ (s1 s' : Shared) (p : Addr) (c : Nat) (L' : List Rw), (∀ b o, s.heap.get? b = some o → s1.heap.get? b = some o) → (∀ b o, s1.heap.get? b = some o → s'.heap.get? b = some o) → s1.gens = s.gens → s1.os = s.os → s'.gens = s1.gens → s'.os = s1.os → s1.heap.objs.size ≤ p → s'.heap.get? p = some (seqObj "list" (refsOf L').toArray c) → L'.Perm L → L'.Pairwise (fun q r => ¬ r.2 < q.2) → Q (.ref p) s') :
    wpAny (model P w) A (call (.builtin "sorted") [x]) Q E s := by
  refine Calls.call_function_entry kind_sorted plain_sorted entry_sorted (args_sorted1 _) ?_
  unfold Builtin.«sorted»
  refine wpAny_bind (m := checkCount "sorted" 1 1 _) (wpAny_pure (wpAny_bind (col _ _ fun vs s1 k1 g1 o1 pm => ?_)))
  obtain ⟨L1, p1, rfl⟩ := perm_back pm L rfl
  have e1 : (L1.map fun q => Value.ref q.1) = refsOf L1 := rfl
  rw [e1]
  have hl1 : L1.length ≤ sizeLine := by rw [p1.length_eq]; exact hL
  refine wpAny_bind (wpAny_newList ?_ (by unfold refsOf; rw [List.length_map]; exact hl1))
  have hoL : (s1.heap.push (seqObj "list" (refsOf L1).toArray 0)).get? s1.heap.objs.size = some (seqObj "list" (refsOf L1).toArray 0) := Heap.get?_push_size _ rfl
  refine wpAny_bind (wpAny_holding (sort_rows (s := { s1 with heap := s1.heap.push (seqObj "list" (refsOf L1).toArray 0) }) hoL (fun q hq => ?_) (fun q hq => hne q (p1.mem_iff.mp hq)) hl1 (by show A.units + 1 + 3 < cLine; omega) fun L' p2 pw => ?_))
  · exact isT_keep (ht q (p1.mem_iff.mp hq)) fun b u e => Heap.get?_push_of_some _ (k1 b u e)
  · obtain ⟨c, hc⟩ := sortedHeap_at (vs := refsOf L1) (out := (refsOf L').toArray) hoL
    refine wpAny_pure ⟨_, rfl, hQ s1 _ s1.heap.objs.size c L' k1 (fun b u hb => ?_) g1 o1 rfl rfl (Nat.le_refl _) hc (p2.trans p1) pw⟩
    have hlt := Heap.lt_size hb
    show (sortedHeap (s1.heap.push (seqObj "list" (refsOf L1).toArray 0)) s1.heap.objs.size (refsOf L1) (refsOf L').toArray).get? b = some u
    rw [sortedHeap_old (Nat.ne_of_lt hlt) (by rw [size_push']; exact Nat.lt_succ_of_lt hlt)]
    exact Heap.get?_push_of_some _ hb
end
/-! a dict of such rows -/
abbrev DRow := List Int × Addr × Value
def DictAt (P : Program) (w : World) (h : Heap) (a : Addr) (L : List DRow) : Prop := (a == sysModules) = false ∧ L.length ≤ sizeLine ∧ ∃ o es ep, h.get? a = some o ∧ o.ExactDict ∧ o.data = .dict es ep ∧ es.toList = L.map (entryOfKey (tupleKind (intKind P w))) ∧ (L.map (·.1)).Nodup
def DictO (P : Program) (w : World) (a : Addr) (L : List DRow) : HO := .ext fun h => DictAt P w h a L
theorem dictO_ok {P : Program} {w : World} {H : Hp} {h : Heap} {a : Addr} {L : List DRow} (x : DictAt P w h a L) : ObjOk P w H h a (DictO P w a L) := by
  refine ⟨x, ?_, fun h1 h2 y k => ?_⟩
  · obtain ⟨_, _, o, _, _, ho, _⟩ := x
    exact ⟨o, ho⟩
  · obtain ⟨z1, z2, o, es, ep, ho, r⟩ := y
    exact ⟨z1, z2, o, es, ep, k o ho, r⟩
def rowsD (L : List DRow) : List Rw := L.map fun x => (x.2.1, x.1)
theorem sorted_dictAt {P : Program} {w : World} {A : Around} {E : Value → Shared → Prop} {s : Shared} {d : Addr} {L : List DRow} {Q : Value → Shared → Prop} (x : DictAt P w s.heap d L) (hh : A.handled = none) (hne : ∀ q ∈ L, q.1 ≠ []) (ht : ∀ q ∈ L, IsT P w s.heap q.1 q.2.1) (hu : A.units + 4 < cLine)
    (hQ : ∀ (s1 s' : Shared) (p : Addr) (c : Nat) (L' : List Rw), (∀ b o, s.heap.get? b = some o → s1.heap.get? b = some o) → (∀ b o, s1.heap.get? b = some o → s'.heap.get? b = some o) → s1.gens = s.gens → s1.os = s.os → s'.gens = s1.gens → s'.os = s1.os → s1.heap.objs.size ≤ p → s'.heap.get? p = some (seqObj "list" (refsOf L').toArray c) → L'.Perm (rowsD L) → L'.Pairwise (fun q r => ¬ r.2 < q.2) → Q (.ref p) s') :
    wpAny (model P w) A (call (.builtin "sorted") [.ref d]) Q E s := by
  obtain ⟨hd, hz, o, es, ep, ho, hx, hdat, hes, hn⟩ := x
  have hsz : es.size = L.length := size_of_entries hes
  refine sorted_src (L := rowsD L) (fun q hq => ?_) (fun q hq => ?_) (by unfold rowsD; rw [List.length_map]; exact hz) hu ?_ hQ
  · obtain ⟨y, hy, rfl⟩ := List.mem_map.mp hq
    exact hne y hy
  · obtain ⟨y, hy, rfl⟩ := List.mem_map.mp hq
    exact ht y hy
  · intro E' R hR
    refine PySem.W.kdu_collect (A := A.in1) (kdl_raw hd hx hdat) (by show A.handled = none; exact hh) ho (by omega) fun h' tk acc kp it => hR _ _ kp rfl rfl ?_
    · refine .of_eq ?_
      have hl : acc.toList.length = L.length := by rw [Array.length_toList, it.1, hsz]
      unfold refsOf rowsD
      rw [List.map_map]
      apply List.ext_getElem?
      intro j
      rw [List.getElem?_map]
      cases hj : acc.toList[j]? with
      | none =>
        have h1 := List.getElem?_eq_none_iff.mp hj
        rw [List.getElem?_eq_none (by omega)]
        rfl
      | some v =>
        obtain ⟨en, hen, hv⟩ := it.2 j v (by rw [← Array.getElem?_toList]; exact hj)
        have qe := entry_at hes j
        rw [hen] at qe
        cases hb : L[j]? with
        | none => rw [hb] at qe; cases qe
        | some b =>
          rw [hb] at qe
          cases qe
          rw [hv]
          rfl
end Vy
namespace Vy
open PySem PySem.Spec PyProof.Rows L2
open Evl (Ex)
/-! ### rows put in order, in the abstract heap -/
def rSrt (P : Program) (w : World) (L : List Rw) : Hp → VK → Prop := fun H Q => ∀ (p : Addr) (L' : List Rw), L'.Perm L → (L'.map (·.2)).Nodup → L'.Pairwise (fun q r => ¬ r.2 < q.2) → H p = none → Q (.ref p) (upd H p (.lst (L'.map fun q => V.ref q.1)))
def rSrtD (K : PySem.W.Frag) (P : Program) (w : World) : List V → Hp → VK → Prop := fun xs H Q => ∃ (a : Addr) (L : List DRow), xs = [.ref a] ∧ H a = some (DictO P w a L) ∧ (∀ q ∈ L, q.1 ≠ []) ∧ (∀ q ∈ L, SqT K H q.2.1 (q.1.map V.int)) ∧ rSrt P w (rowsD L) H Q
def rSrtS (K : PySem.W.Frag) (P : Program) (w : World) : List V → Hp → VK → Prop := fun xs H Q => ∃ (a : Addr) (L : List Rw), xs = [.ref a] ∧ H a = some (SetTO P w a L) ∧ (∀ q ∈ L, q.2 ≠ []) ∧ (∀ q ∈ L, SqT K H q.1 (q.2.map V.int)) ∧ rSrt P w L H Q
section
variable {X : Cx} {k : Nat}
theorem srt_end {pins : List (Addr × Obj)} {σ : L2.St} {H : Hp} {s s1 s' : Shared} {Q : VK} {p : Addr} {c : Nat} {L' L : List Rw} (I : Inv X pins σ H s) (k1 : ∀ b o, s.heap.get? b = some o → s1.heap.get? b = some o) (k2 : ∀ b o, s1.heap.get? b = some o → s'.heap.get? b = some o)
    (g1 : s1.gens = s.gens) (o1 : s1.os = s.os) (g2 : s'.gens = s1.gens) (o2 : s'.os = s1.os) (hp : s1.heap.objs.size ≤ p) (hg : s'.heap.get? p = some (seqObj "list" (refsOf L').toArray c)) (pm : L'.Perm L) (nd : (L.map (·.2)).Nodup) (pw : L'.Pairwise (fun q r => ¬ r.2 < q.2)) (hz : L.length ≤ sizeLine) (q : rSrt X.prog X.w L H Q) : EP X pins σ Q (.ref p) s' := by
  have I1 : Inv X pins σ H s1 := I.call' (ch := []) o1 (Un.kept k1) (I.kept (h' := s1.heap) (t' := s1.toks) k1).hok (by rw [g1]; exact I.bare) (fun _ z => nomatch z)
  have hn : H p = none := I1.hok.fresh hp
  have hlen : (L'.map fun q => V.ref q.1).length ≤ sizeLine := by rw [List.length_map, pm.length_eq]; exact hz
  have hv : ∀ M : List Rw, Vals (M.map fun q => V.ref q.1) (refsOf M) := fun M => by
    induction M with
    | nil => exact .nil
    | cons q M ih => exact .cons rfl ih
  have J : Inv X pins σ (upd H p (.lst (L'.map fun q => V.ref q.1))) s' :=
    I1.call' (ch := []) o2 (Un.laid k2 hp hn) (I1.hok.laid k2 hp ⟨hlen, refsOf L', c, hv L', hg⟩) (by rw [g2]; exact I1.bare) (fun _ z => nomatch z)
  exact ⟨.ref p, _, J, rfl, q p L' pm ((pm.map (·.2)).nodup_iff.mpr nd) pw hn⟩
theorem cr_srtD (xr : XR k X) : CallR X (.builtin "sorted") (rSrtD X.K X.prog X.w) := by
  intro pins s σ H xs us Q I r h
  obtain ⟨a, L, rfl, ha, hne, ht, q⟩ := h
  rw [Vals.ref1 r]
  have D0 : DictAt X.prog X.w s.heap a L := (I.hok a _ ha).1
  have hz : L.length ≤ sizeLine := D0.2.1
  have nd : (L.map (·.1)).Nodup := by
    obtain ⟨_, _, _, _, _, _, _, _, _, n⟩ := D0
    exact n
  have hu := xr.hu2
  refine sorted_dictAt D0 (I.ok.hd xr.calm) hne (fun y hy => I.isT (ht y hy)) (by omega) fun s1 s' p c L' k1 k2 g1 o1 g2 o2 hp hg pm pw => srt_end I k1 k2 g1 o1 g2 o2 hp hg pm ?_ pw (by unfold rowsD; rw [List.length_map]; exact hz) q
  unfold rowsD
  rw [List.map_map]
  exact nd
theorem cr_srtS (xr : XR k X) : CallR X (.builtin "sorted") (rSrtS X.K X.prog X.w) := by
  intro pins s σ H xs us Q I r h
  obtain ⟨a, L, rfl, ha, hne, ht, q⟩ := h
  rw [Vals.ref1 r]
  have R0 : SetT0 X.prog X.w s.heap a L := (I.hok a _ ha).1
  obtain ⟨es, ep, t, R⟩ := R0.full fun p hp => I.isT (ht p hp)
  have hu := xr.hu2
  have hfew := R.few
  have hz : L.length ≤ sizeLine := by rw [sizeLine_eq]; omega
  refine sorted_src hne (fun y hy => I.isT (ht y hy)) hz (by omega) (fun E' Rr hR => ?_) fun s1 s' p c L' k1 k2 g1 o1 g2 o2 hp hg pm pw => srt_end I k1 k2 g1 o1 g2 o2 hp hg pm R.nd pw hz q
  obtain ⟨o, ho, hex, hd⟩ := R.ob
  refine collect_set (A := X.A.in1) (by show X.A.in1.handled = none; exact I.ok.hd xr.calm) ⟨o, ho, hex.1, hd⟩ R.fits (by have := R.size; unfold scanBound; omega) R.tab.ris R.led fun s1 vs k1 _ g1 o1 pm => hR vs s1 k1 g1 o1 ?_
  have hes : es.toList.map (·.2) = refsOf L := by
    rw [R.rows]
    unfold rowsOf refsOf
    rw [List.map_map]
    rfl
  rw [← hes]
  exact pm
end
/-! ### the order by value -/
def insU (x : List Int) : List (List Int) → List (List Int)
  | [] => [x]
  | y :: ys => if x < y then x :: y :: ys else if x = y then y :: ys else y :: insU x ys
def sortU : List (List Int) → List (List Int)
  | [] => []
  | x :: xs => insU x (sortU xs)
theorem mem_insU {x z : List Int} : ∀ {ys : List (List Int)}, z ∈ insU x ys ↔ z = x ∨ z ∈ ys
  | [] => by simp [insU]
  | y :: ys => by
    unfold insU
    split
    · simp
    · split
      · rename_i h; subst h; simp
      · simp only [List.mem_cons, mem_insU (ys := ys)]
        exact ⟨fun h => by rcases h with h | h | h <;> simp [h], fun h => by rcases h with h | h | h <;> simp [h]⟩
theorem mem_sortU {z : List Int} : ∀ {xs : List (List Int)}, z ∈ sortU xs ↔ z ∈ xs
  | [] => by simp [sortU]
  | x :: xs => by rw [sortU, mem_insU, mem_sortU, List.mem_cons]
theorem ilt_of {x y : List Int} (h : ¬ x < y) (n : x ≠ y) : y < x := by
  rcases List.le_iff_lt_or_eq.mp (List.not_lt.mp h) with h | h
  · exact h
  · exact absurd h.symm n
theorem insU_ord {x : List Int} : ∀ {ys : List (List Int)}, ys.Pairwise (· < ·) → (insU x ys).Pairwise (· < ·)
  | [], _ => by simp [insU]
  | y :: ys, h => by
    obtain ⟨h1, h2⟩ := List.pairwise_cons.mp h
    unfold insU
    split
    · rename_i hx
      exact List.pairwise_cons.mpr ⟨fun z hz => by
        rcases List.mem_cons.mp hz with rfl | hz
        · exact hx
        · exact List.lt_trans hx (h1 z hz), h⟩
    · split
      · exact h
      · rename_i ha hb
        refine List.pairwise_cons.mpr ⟨fun z hz => ?_, insU_ord h2⟩
        rcases mem_insU.mp hz with rfl | hz
        · exact ilt_of ha hb
        · exact h1 z hz
theorem sortU_ord : ∀ xs : List (List Int), (sortU xs).Pairwise (· < ·)
  | [] => .nil
  | x :: xs => insU_ord (sortU_ord xs)
theorem ord_unique : ∀ {xs ys : List (List Int)}, xs.Pairwise (· < ·) → ys.Pairwise (· < ·) → (∀ z, z ∈ xs ↔ z ∈ ys) → xs = ys
  | [], [], _, _, _ => rfl
  | [], y :: ys, _, _, h => by have := (h y).mpr List.mem_cons_self; cases this
  | x :: xs, [], _, _, h => by have := (h x).mp List.mem_cons_self; cases this
  | x :: xs, y :: ys, h1, h2, h => by
    obtain ⟨a1, a2⟩ := List.pairwise_cons.mp h1
    obtain ⟨b1, b2⟩ := List.pairwise_cons.mp h2
    have e : x = y := by
      rcases List.mem_cons.mp ((h x).mp List.mem_cons_self) with e | hx
      · exact e
      · rcases List.mem_cons.mp ((h y).mpr List.mem_cons_self) with e | hy
        · exact e.symm
        · exact absurd (List.lt_trans (b1 x hx) (a1 y hy)) (List.lt_irrefl y)
    subst e
    rw [ord_unique a2 b2 fun z => ?_]
    constructor
    · intro hz
      rcases List.mem_cons.mp ((h z).mp (List.mem_cons_of_mem _ hz)) with e | hz'
      · subst e; exact absurd (a1 z hz) (List.lt_irrefl z)
      · exact hz'
    · intro hz
      rcases List.mem_cons.mp ((h z).mpr (List.mem_cons_of_mem _ hz)) with e | hz'
      · subst e; exact absurd (b1 z hz) (List.lt_irrefl z)
      · exact hz'
theorem rows_ord {L' : List Rw} (nd : (L'.map (·.2)).Nodup) (pw : L'.Pairwise (fun q r => ¬ r.2 < q.2)) : (L'.map (·.2)).Pairwise (· < ·) := by
  rw [List.pairwise_map]
  have nd' : L'.Pairwise (fun q r => q.2 ≠ r.2) := List.pairwise_map.mp nd
  exact (pw.and nd').imp fun h => ilt_of h.1 fun e => h.2 e.symm
/-- the keys as data -/
def rowsOfD : List D → Option (List (List Int))
  | [] => some []
  | .tup xs :: ds => match intsOf xs, rowsOfD ds with
    | some (i :: is), some ks => some ((i :: is) :: ks)
    | _, _ => none
  | _ :: _ => none
def rowD (k : List Int) : D := .tup (k.map .int)
theorem rowsOfD_eq : ∀ {ds : List D} {ks : List (List Int)}, rowsOfD ds = some ks → ds = ks.map rowD ∧ ∀ k ∈ ks, k ≠ []
  | [], _, h => by cases h; exact ⟨rfl, fun _ z => nomatch z⟩
  | d :: ds, ks, h => by
    cases d <;> simp only [rowsOfD, reduceCtorEq] at h
    rename_i xs
    cases h1 : intsOf xs with
    | none => rw [h1] at h; simp at h
    | some is =>
      cases h2 : rowsOfD ds with
      | none => rw [h1, h2] at h; cases is <;> simp at h
      | some ms =>
        rw [h1, h2] at h
        cases is with
        | nil => simp at h
        | cons i is =>
          cases h
          obtain ⟨e, n⟩ := rowsOfD_eq h2
          refine ⟨by rw [List.map_cons, ← e, rowD, intsOf_eq h1], fun k hk => ?_⟩
          rcases List.mem_cons.mp hk with rfl | hk
          · simp
          · exact n k hk
theorem rowsOfD_map : ∀ {ks : List (List Int)}, (∀ k ∈ ks, k ≠ []) → rowsOfD (ks.map rowD) = some ks
  | [], _ => rfl
  | k :: ks, h => by
    show (match intsOf (k.map .int), rowsOfD (ks.map rowD) with
      | some (i :: is), some ks => some ((i :: is) :: ks)
      | _, _ => none) = some (k :: ks)
    rw [intsOf_map, rowsOfD_map fun j hj => h j (List.mem_cons_of_mem _ hj)]
    cases k with
    | nil => exact absurd rfl (h [] List.mem_cons_self)
    | cons i is => rfl
section
variable {K : PySem.W.Frag} {mg : Str → Option Value} {H : Hp}
/-- the tuples of a list of rows -/
theorem rep_rows : ∀ {ks : List (List Int)} {xs : List V}, RepL K mg H xs (ks.map rowD) → ∃ L : List Rw, xs = L.map (fun q => V.ref q.1) ∧ L.map (·.2) = ks ∧ ∀ q ∈ L, SqT K H q.1 (q.2.map V.int)
  | [], _, .nil => ⟨[], rfl, rfl, fun _ z => nomatch z⟩
  | k :: ks, _, .cons h r => by
    obtain ⟨L, e1, e2, e3⟩ := rep_rows r
    cases h with
    | tup hs hr =>
      rename_i a xs'
      rw [repL_ints hr] at hs
      refine ⟨(a, k) :: L, by rw [e1]; rfl, by rw [List.map_cons, e2], fun q hq => ?_⟩
      rcases List.mem_cons.mp hq with rfl | hq
      · exact hs
      · exact e3 q hq
theorem rows_rep : ∀ {L : List Rw}, (∀ q ∈ L, SqT K H q.1 (q.2.map V.int)) → RepL K mg H (L.map fun q => V.ref q.1) ((L.map (·.2)).map rowD)
  | [], _ => .nil
  | q :: L, h => .cons (.tup (h q List.mem_cons_self) (rep_ints _)) (rows_rep fun r hr => h r (List.mem_cons_of_mem _ hr))
end
/-- sorted(set(xs)) -/
def dSrtSet : D → Option R
  | .lst ds => match rowsOfD ds with
    | some ks => if ks.length < 64 then some (.fr (.lst ((sortU ks).map rowD))) else none
    | none => none
  | _ => none
section
variable {X : Cx} {W : WX} {e a b tg : Expr} {mv : M D} {i j : Nat} {x y z : Str} {pos p p' p2 pos2 : Pos} {k : Nat}
theorem tr_srtSet (xr : XR k X) (h : TrV X W a mv) (hg : Gl X "sorted") (hm : X.mg "sorted" = none) (hg2 : Gl X "set") (hm2 : X.mg "set" = none)
    (he : starEach [.Call (.Name "set" p2) [a] [] pos2] X.env = (false, eval (.Call (.Name "set" p2) [a] [] pos2) X.env) :: starEach [] X.env := by rfl) (he2 : starEach [a] X.env = (false, eval a X.env) :: starEach [] X.env := by rfl)
    (hpl : (backTo pos (starEach [] X.env)).any (·.1) = false := by rfl) (hpl2 : (backTo pos2 (starEach [] X.env)).any (·.1) = false := by rfl) : TrE X W (.Call (.Name "sorted" p) [.Call (.Name "set" p2) [a] [] pos2] [] pos) (mRd dSrtSet mv) := by
  intro B ρ τ σ H Q hs q
  refine ⟨tCB (rSrtS X.K X.prog X.w) (tCons (tCB (rSetOfT X.K X.prog X.w) (tCons (AnyE X a) tNil)) tNil), pe_callB (cr_srtS xr) hg hm boot_sorted (pa_cons (pe_callTy (cr_setOfT xr.calm xr.hu) hg2 hm2 boot_set (pa_cons pe_any pa_nil he2) (by decide) (by decide) he2 hpl2) pa_nil he) (by decide) (by decide) he hpl, h B ρ τ σ H _ hs
    (rd_post (f := fun v H Q => rSetOfT X.K X.prog X.w [v] H fun u H1 => rSrtS X.K X.prog X.w [u] H1 Q) ?_ q)⟩
  intro B ρ τ σ H Q v d r e ⟨Hk, w, hI, vw⟩ q
  cases d <;> simp only [dSrtSet, reduceCtorEq] at e
  rename_i ds
  cases hr : rowsOfD ds with
  | none => rw [hr] at e; simp at e
  | some ks =>
    rw [hr] at e
    simp only at e
    split at e
    · rename_i hz
      cases e
      obtain ⟨e1, e2⟩ := rowsOfD_eq hr
      obtain ⟨l, xs, rfl, hx, rx⟩ := vw.lst hI.e1
      rw [e1] at rx
      obtain ⟨L, rfl, f2, f3⟩ := rep_rows rx
      have hlen : L.length < 64 := by rw [← f2, List.length_map] at hz; exact hz
      refine ⟨l, L, rfl, SqL.of hx, fun q hq => sqT_up hI.e1 (f3 q hq), hlen, fun a S hn s1 s2 => ?_⟩
      have ek : Ex Hk (upd Hk a (SetTO X.prog X.w a S)) := Ex.new (Evl.fresh_back hI.e1 hn)
      have h2 := hI.laidK (o := SetTO X.prog X.w a S) hn
      have key : ∀ q ∈ S, q.2 ≠ [] := fun q hq => e2 _ (by rw [← f2]; exact List.mem_map.mpr ⟨q, s1 q hq, rfl⟩)
      refine ⟨a, S, rfl, upd_same, key, fun q hq => sqT_up h2.e1 (sqT_up ek (f3 q (s1 q hq))), fun p L' pm nd pw hp => ?_⟩
      have er : L'.map (·.2) = sortU ks := ord_unique (rows_ord nd pw) (sortU_ord ks) fun z => by
        rw [mem_sortU, (pm.map (·.2)).mem_iff, ← f2]
        constructor
        · intro hz
          obtain ⟨q, hq, rfl⟩ := List.mem_map.mp hz
          exact List.mem_map.mpr ⟨q, s1 q hq, rfl⟩
        · intro hz
          obtain ⟨q, hq, rfl⟩ := List.mem_map.mp hz
          exact s2 q hq
      refine q _ _ ⟨_, _, h2.laidO hp ⟨_, upd_same, ?_⟩⟩
      rw [← er]
      exact rows_rep fun q hq => sqT_up ek (f3 q (s1 q (pm.mem_iff.mp hq)))
    · cases e
end
end Vy
namespace Vy
open PySem PySem.Spec PyProof.Rows L2
open Evl (Ex)
/-! ### {row: value for target in ..} -/
theorem stored_len (L : List DRow) (k : List Int) (b : Addr) (r : Value) : (storedH L k b r).length ≤ L.length + 1 := by
  unfold storedH
  split
  · rw [List.length_map]; omega
  · rw [List.length_append]; exact Nat.le_refl _
theorem stored_mem {L : List DRow} {k : List Int} {b : Addr} {r : Value} {x : DRow} (h : x ∈ storedH L k b r) : (x.2.1, x.1) ∈ rowsD L ∨ (x.2.1 = b ∧ x.1 = k) := by
  unfold storedH at h
  split at h
  · obtain ⟨y, hy, e⟩ := List.mem_map.mp h
    refine .inl (List.mem_map.mpr ⟨y, hy, ?_⟩)
    subst e
    unfold putAt
    split <;> rfl
  · rcases List.mem_append.mp h with h | h
    · exact .inl (List.mem_map.mpr ⟨x, h, rfl⟩)
    · rw [List.mem_singleton.mp h]; exact .inr ⟨rfl, rfl⟩
theorem stored_keys {L : List DRow} {k : List Int} {b : Addr} {r : Value} {z : List Int} (h : z ∈ L.map (·.1) ∨ z = k) : z ∈ (storedH L k b r).map (·.1) := by
  unfold storedH
  by_cases q : (atKey L k).isSome = true
  · rw [if_pos q, List.map_map]
    have e : ((fun x : DRow => x.1) ∘ putAt k r) = fun x : DRow => x.1 := by
      funext x
      show (putAt k r x).1 = x.1
      unfold putAt
      split <;> rfl
    rw [e]
    rcases h with h | rfl
    · exact h
    · unfold atKey at q
      rw [Option.isSome_map, List.find?_isSome] at q
      obtain ⟨x, hx, e⟩ := q
      exact List.mem_map.mpr ⟨x, hx, of_decide_eq_true e⟩
  · rw [if_neg q, List.map_append]
    rcases h with h | rfl
    · exact List.mem_append_left _ h
    · exact List.mem_append_right _ (by simp)
section
variable {X : Cx}
theorem put_row {pins : List (Addr × Obj)} {σ : L2.St} {H : Hp} {s : Shared} {E : Value → Shared → Prop} {D b : Addr} {L : List DRow} {k : List Int} {r : Value} {Q : Unit → Shared → Prop} (hu : X.A.units < cLine) (I : Inv X pins σ H s) (hD : H D = some (DictO X.prog X.w D L)) (hz : L.length < sizeLine) (hb : SqT X.K H b (k.map V.int))
    (hk : ∀ q ∈ L, SqT X.K H q.2.1 (q.1.map V.int)) (h : ∀ s', Inv X pins σ (upd H D (DictO X.prog X.w D (storedH L k b r))) s' → Q () s') : wpAny (model X.prog X.w) X.A (dictSet D (.ref b) r) Q E s := by
  obtain ⟨hd, hl, o, es, ep, ho, hx, hdt, hes, hn⟩ := (I.hok D _ hD).1
  refine wpAny_dictSet_heap (knd := tupleKind (intKind X.prog X.w)) (show X.A.units < cLine from hu) (I.isT hb) ⟨o, es, ep, ho, hx, hdt, hes, fun x hx => I.isT (hk x hx), hn⟩ (fun h' dd hs => h _ ?_) hl
  obtain ⟨o2, es2, ep2, q1, q2, q3, q4, _, q5⟩ := dd
  have := stored_len L k b r
  exact d_write I (by rw [hD]; exact True.intro) hs ⟨o2, q1⟩ (dictO_ok ⟨hd, by omega, o2, es2, ep2, q1, q2, q3, q4, q5⟩)
/-- what the block does, turn by turn -/
def tDr (K : PySem.W.Frag) (P : Program) (w : World) (wi : TI) (g : TG) (tk tv : TE) (vs : List Nat) : TE := fun σ H Q => wi σ H fun J H1 => ∀ D, H1 D = none → ∃ Wn : Nat → Nat → Hp → Prop, (∃ m, Wn 0 m (upd H1 D (DictO P w D []))) ∧ ∀ i m Ha, Wn i m Ha →
  (J.stop i Ha ∧ Q (.ref D) Ha) ∨ (J.go i Ha ∧ ∃ Nx : Hp → Prop, (∀ Hb, Nx Hb → ∃ m', m' < m ∧ Wn (i + 1) m' Hb) ∧ ∀ x Hb, J.yld i Ha x Hb → g x (L2.wipe σ vs) Hb fun σ2 H2 => L2.wipe σ2 vs = L2.wipe σ vs ∧
    tk σ2 H2 fun y H3 => tv σ2 H3 fun z H4 => ∃ (L : List DRow) (k : List Int) (b : Addr), y = .ref b ∧ H4 D = some (DictO P w D L) ∧ L.length < sizeLine ∧ SqT K H4 b (k.map V.int) ∧ (∀ q ∈ L, SqT K H4 q.2.1 (q.1.map V.int)) ∧ ∀ u, RelV z u → Nx (upd H4 D (DictO P w D (storedH L k b u))))
theorem pe_rows {kx vx tg iter : Expr} {scope : Scope} {own : List (Str × Nat)} {pos : Pos} {wi : TI} {g : TG} {tk tv : TE} (hu : X.A.units < cLine) (calm : X.calm = true) (xn : X.N.Nodup) (walk : PI X tg iter wi) (ok : BlkOk X.N X.env.scope scope own)
    (bg : ∀ (s : Shared) (H : Hp) (C : Addr) (cl : List (Str × Addr)) (fp : List Addr), PG (Bk X scope s H C cl fp) tg g) (bk : ∀ (s : Shared) (H : Hp) (C : Addr) (cl : List (Str × Addr)) (fp : List Addr), PE (Bk X scope s H C cl fp) kx tk)
    (bv : ∀ (s : Shared) (H : Hp) (C : Addr) (cl : List (Str × Addr)) (fp : List Addr), PE (Bk X scope s H C cl fp) vx tv) (fold : ∀ x, foldedSetIterable iter X.env x = pure x) : PE X (.DictComp kx vx [⟨tg, iter, [], 0⟩] scope pos) (tDr X.K X.prog X.w wi g tk tv (own.map (·.2))) := by
  constructor
  intro pins s σ H Q I h
  rw [arm_eval_DictComp]
  have free : ∀ y ∈ scope.names, y.2 = .free → ∃ c, X.env.cells.lookup y.1 = some c := by
    intro y hy e
    rcases ok.free y hy e with z | z
    · exact I.ok.has _ (Or.inl z)
    · exact I.ok.has _ (Or.inr z)
  refine wpAny_comprehension_free (use := none) rfl fold (closure_ok free) ok.kind (fun y hy e => by rw [ok.uniq y hy, e]) (thn (walk.run pins s σ H _ I h) fun xv s1 h1 => thn h1 ?_)
  rintro itv s2 ⟨it, fp, tn, J, H2, rfl, I2, T, st2, f2, q⟩
  refine wpAny_newObj_type (newEnv_comp ?_)
  generalize eD : s2.heap.objs.size = D
  have freshD : H2 D = none := I2.hok.fresh (Nat.le_of_eq eD)
  obtain ⟨Wn, ⟨m0, w0⟩, turn⟩ := q D freshD
  -- the empty dict
  generalize es3 : ({ s2 with heap := s2.heap.push { cls := .type "dict", data := .dict #[] } } : Shared) = s3
  have big := I2.big
  have I3 : Inv X pins σ (upd H2 D (DictO X.prog X.w D [])) s3 := by
    rw [← es3]
    refine I2.laid (t' := s2.toks) (fun b o e => Heap.get?_push_of_some _ e) (Nat.le_of_eq eD) (dictO_ok ?_)
    rw [← eD]
    have hne : (s2.heap.objs.size == sysModules) = false := beq_eq_false_iff_ne.mpr (Nat.ne_of_gt big)
    exact ⟨hne, Nat.zero_le _, _, _, _, Heap.get?_push_size _ rfl, ⟨rfl, rfl, rfl⟩, rfl, rfl, .nil⟩
  have heap3 : s3.heap = s2.heap.push { cls := .type "dict", data := .dict #[] } := by rw [← es3]
  have below : ∀ b ∈ fp, b < s2.heap.objs.size := by
    intro b hb
    obtain ⟨o, e, _⟩ := T.obj _ _ st2 b hb
    exact Heap.lt_size e
  have f3 : ∀ b ∈ fp, FpOk X pins (upd H2 D (DictO X.prog X.w D [])) b ∧ b < s3.heap.objs.size := by
    intro b hb
    have lt := below b hb
    obtain ⟨n, r⟩ := f2 b hb
    exact ⟨⟨by rw [upd_ne (by rw [← eD]; exact Nat.ne_of_lt lt)]; exact n, r⟩, by rw [heap3, Heap.size_push]; exact Nat.lt_succ_of_lt lt⟩
  have st3 : tn 0 s3.heap := T.keep _ _ _ st2 fun b _ o e => by rw [heap3]; exact Heap.get?_push_of_some _ e
  have I4 := block_start I3 ok xn f3
  have gB : PG (X.blk s3 (upd H2 D (DictO X.prog X.w D [])) scope (compEnvC scope (cellsFrom (s3.heap.objs.size + 1) scope.names (cloFrom X.env.cells scope.names [])) s3.heap.objs.size X.env) fp) tg g := bg s3 (upd H2 D (DictO X.prog X.w D [])) s3.heap.objs.size (cellsFrom (s3.heap.objs.size + 1) scope.names (cloFrom X.env.cells scope.names [])) fp
  have kB : PE (X.blk s3 (upd H2 D (DictO X.prog X.w D [])) scope (compEnvC scope (cellsFrom (s3.heap.objs.size + 1) scope.names (cloFrom X.env.cells scope.names [])) s3.heap.objs.size X.env) fp) kx tk := bk s3 (upd H2 D (DictO X.prog X.w D [])) s3.heap.objs.size (cellsFrom (s3.heap.objs.size + 1) scope.names (cloFrom X.env.cells scope.names [])) fp
  have vB : PE (X.blk s3 (upd H2 D (DictO X.prog X.w D [])) scope (compEnvC scope (cellsFrom (s3.heap.objs.size + 1) scope.names (cloFrom X.env.cells scope.names [])) s3.heap.objs.size X.env) fp) vx tv := bv s3 (upd H2 D (DictO X.prog X.w D [])) s3.heap.objs.size (cellsFrom (s3.heap.objs.size + 1) scope.names (cloFrom X.env.cells scope.names [])) fp
  show codeAny _ _ (.compStart (.DictComp kx vx [⟨tg, iter, [], 0⟩] scope pos) 0 (.ref it) (.ref D) (compEnvC scope (cellsFrom (s3.heap.objs.size + 1) scope.names (cloFrom X.env.cells scope.names [])) s3.heap.objs.size X.env)) (compPost (model X.prog X.w) X.A X.xe none (EP X pins σ Q) (.ref D) s3.heap.objs.size) { s3 with heap := pushCells (s3.heap.push { cls := .type "dict", data := .dict #[] }) scope.names }
  have none3 : ∀ b ∈ fp, (upd H2 D (DictO X.prog X.w D [])) b = none := fun b hb => (f3 b hb).1.1
  have szC : (compEnvC scope (cellsFrom (s3.heap.objs.size + 1) scope.names (cloFrom X.env.cells scope.names [])) s3.heap.objs.size X.env).locals = s3.heap.objs.size := rfl
  generalize compEnvC scope (cellsFrom (s3.heap.objs.size + 1) scope.names (cloFrom X.env.cells scope.names [])) s3.heap.objs.size X.env = env2 at I4 gB kB vB szC ⊢
  generalize eH : upd H2 D (DictO X.prog X.w D []) = Hs at I3 I4 gB kB vB w0 none3 f3
  generalize es4 : ({ s3 with heap := pushCells (s3.heap.push { cls := .type "dict", data := .dict #[] }) scope.names } : Shared) = s4 at I4 ⊢
  have st4 : tn 0 s4.heap := by
    refine T.keep _ _ _ st3 fun b _ o e => ?_
    rw [← es4]
    exact pushCells_keeps _ _ _ _ (Heap.get?_push_of_some _ e)
  have okF : ∀ {σ' : L2.St} {H' : Hp} {s' : Shared}, Inv (X.blk s3 Hs scope env2 fp) [] σ' H' s' → (∀ b ∈ fp, H' b = none) → ∀ b ∈ fp, FpOk (X.blk s3 Hs scope env2 fp) [] H' b := by
    intro σ' H' s' J' hn b hb
    refine ⟨hn b hb, (J'.ok.exf b hb).1, J'.ok.exfs b hb, Or.inl hb, fun x c e => (J'.ok.exf b hb).2 x c e, fun p hp => ?_⟩
    have hp : p ∈ ([] : List (Addr × Obj)) ++ [] := hp
    simp at hp
  have loop : codeAny (model X.prog X.w) X.A (.compLoop (.DictComp kx vx [⟨tg, iter, [], 0⟩] scope pos) 0 (.ref it) (.ref D) env2) (compPost (model X.prog X.w) X.A X.xe none (EP X pins σ Q) (.ref D) s3.heap.objs.size) s4 := by
    refine compLoop_anyD (fun m s' => ∃ i Hi, Inv (X.blk s3 Hs scope env2 fp) [] (L2.wipe σ (own.map (·.2))) Hi s' ∧ tn i s'.heap ∧ (∀ b ∈ fp, Hi b = none) ∧ Wn i m Hi) ?_ m0 ⟨0, Hs, I4, st4, none3, w0⟩
    rintro m s5 ⟨i, H5, I5, st5, n5, w5⟩
    rcases turn i m H5 w5 with ⟨stop, fin⟩ | ⟨go, Nx, next, step⟩
    · -- nothing left: back outside
      refine thnF (T.done (X.blk s3 Hs scope env2 fp) rfl rfl rfl calm i [] s5 _ H5 (fun _ _ => False) I5 (okF I5 n5) st5 stop) ?_
      rintro r s6 ⟨rfl, I6⟩
      have I7 : Inv X pins σ H5 s6 := by
        refine I3.call' (ch := fp) I6.os I6.base I6.hok I6.bare fun b hb => ?_
        obtain ⟨_, z1, _, z2, z3, z4⟩ := (f3 b hb).1
        exact ⟨z2, z1, z3, z4⟩
      have none5 : H5 s3.heap.objs.size = none := by
        rw [← szC]
        exact I6.free
      obtain ⟨mm, ns, _⟩ := I6.loc
      have ns : s6.heap.Ns env2.locals mm := ns
      rw [szC] at ns
      obtain ⟨g0, g1, _, g3, g4, g5⟩ := I3.fpOk (Nat.le_refl _) none5
      refine ⟨mm, ns, fun h' sb => ⟨.ref D, H5, I7.turned (t' := s6.toks) (fun b o hb e => (sb.2 b hb).trans e) g0 g1 g3 g4 g5, rfl, fin⟩⟩
    · refine thnF (T.item (X.blk s3 Hs scope env2 fp) rfl rfl rfl calm i [] s5 _ H5 (fun _ _ => False) I5 (okF I5 n5) st5 go) ?_
      rintro r s6 ⟨u, rfl, h6⟩
      refine thnF h6 ?_
      rintro _ s7 ⟨x, H7, I7, r7, y7, st7, n7⟩
      have I8 := I7.pinned (okF I7 n7) (T.obj _ _ st7)
      refine thnF (gB.run _ s7 _ H7 x u _ I8 r7 (step x H7 y7)) ?_
      rintro _ s8 ⟨σ8, H8, I9, hw, q8⟩
      refine thnF ((pts_nil (X := X.blk s3 Hs scope env2 fp)).run _ s8 σ8 H8 (fun b H' => b = true ∧ H' = H8) I9 ⟨rfl, rfl⟩) ?_
      rintro b s9 ⟨H9, I10, rfl, rfl⟩
      rw [if_pos rfl]
      refine thnF (kB.run _ s9 σ8 H9 _ I10 q8) ?_
      rintro ku s10 ⟨yk, H10, I11, rk, q10⟩
      refine thnF (vB.run _ s10 σ8 H10 _ I11 q10) ?_
      rintro vu s11 ⟨yv, H11, I12, rv, L, k, kb, rfl, hD, hz, hb, hk, nx⟩
      cases rk
      refine put_row (X := X.blk s3 Hs scope env2 fp) hu I12 hD hz hb hk fun s12 I13 => ?_
      obtain ⟨m', hm, w'⟩ := next _ (nx vu rv)
      have pin' : ∀ b ∈ fp, ∀ o, s7.heap.get? b = some o → s12.heap.get? b = some o ∧ (upd H11 D (DictO X.prog X.w D (storedH L k kb vu))) b = none := fun b hb o e => by
        obtain ⟨z1, z2, _⟩ := I13.pin (b, o) (List.mem_append_right _ (List.mem_append_right _ (mem_pinsAt hb e)))
        exact ⟨z1, z2⟩
      have len8 : (L2.wipe σ (own.map (·.2))).length = σ8.length := by rw [← hw, wipe_length]
      refine ⟨m', hm, i + 1, _, (I13.unpinned (pins := [])).weak len8 (fun j v e => ?_), T.keep _ _ _ st7 fun b' hb' o e => (pin' b' hb' o e).1, fun b' hb' => ?_, w'⟩
      · rw [← hw] at e
        exact (wipe_some e).1
      · obtain ⟨o, e, _⟩ := T.obj _ _ st7 b' hb'
        exact (pin' b' hb' o e).2
  exact codeAny_compStart_dict loop (T.self X.A 0 _ _ _ st4 loop)
end
end Vy
namespace Vy
open PySem PySem.Spec PyProof.Rows L2
open Evl (Ex)
/-! ### sorted({x: True for x in xs}) -/
def dSrtRows (xs : List D) : Option R := match rowsOfD xs with
  | some ks => if ks.length ≤ sizeLine then some (.fr (.lst ((sortU ks).map rowD))) else none
  | none => none
def dSrtDict : D → Option R
  | .lst ds => dSrtRows ds
  | .tup ds => dSrtRows ds
  | _ => none
def mSrtDict (j : Nat) (mv : M D) : M R := mv >>= fun d => fun ρ => if j < ρ.length then M.opt (dSrtDict d) ρ else .er
theorem rows_some {xs : List D} {r : R} (h : dSrtRows xs = some r) : ∃ ks, xs = ks.map rowD ∧ (∀ k ∈ ks, k ≠ []) ∧ ks.length ≤ sizeLine ∧ r = .fr (.lst ((sortU ks).map rowD)) := by
  unfold dSrtRows at h
  cases hr : rowsOfD xs with
  | none => rw [hr] at h; cases h
  | some ks =>
    rw [hr] at h
    simp only at h
    split at h
    · cases h
      obtain ⟨e1, e2⟩ := rowsOfD_eq hr
      exact ⟨ks, e1, e2, by assumption, rfl⟩
    · cases h
/-- what the dict has behind i turns -/
structure Dup (L : List Rw) (i : Nat) (M : List DRow) : Prop where
  sub : ∀ q ∈ M, (q.2.1, q.1) ∈ L
  all : ∀ r ∈ L.take i, r.2 ∈ M.map (·.1)
  few : M.length ≤ i
theorem Dup.next {L : List Rw} {i : Nat} {M : List DRow} {x : Rw} {u : Value} (h : Dup L i M) (hx : L[i]? = some x) : Dup L (i + 1) (storedH M x.2 x.1 u) := by
  refine ⟨fun q hq => ?_, fun r hr => ?_, ?_⟩
  · rcases stored_mem hq with z | ⟨z1, z2⟩
    · obtain ⟨y, hy, e⟩ := List.mem_map.mp z
      rw [← e]
      exact h.sub y hy
    · rw [z1, z2]
      exact List.mem_of_getElem? hx
  · rw [take_next hx] at hr
    rcases List.mem_append.mp hr with z | z
    · exact stored_keys (.inl (h.all r z))
    · rw [List.mem_singleton.mp z]
      exact stored_keys (.inr rfl)
  · have := stored_len M x.2 x.1 u
    have := h.few
    omega
theorem upd_twice {H : Hp} {D : Addr} {a b : HO} : upd (upd H D a) D b = upd H D b := by
  funext q
  by_cases h : q = D
  · rw [h, upd_same, upd_same]
  · rw [upd_ne h, upd_ne h, upd_ne h]
section
variable {X : Cx} {W : WX} {e : Expr} {mv : M D} {j kc : Nat} {x y : Str} {pos p pos2 q1 q2 q3 : Pos} {k : Nat}
theorem row_at {L : List Rw} {i : Nat} {v : V} (h : (L.map fun q => V.ref q.1)[i]? = some v) : ∃ r, L[i]? = some r ∧ v = .ref r.1 := by
  rw [List.getElem?_map] at h
  obtain ⟨r, hr, rfl⟩ := Option.map_eq_some_iff.mp h
  exact ⟨r, hr, rfl⟩
theorem dict_turns {σ : L2.St} {H1 : Hp} {D : Addr} {L : List Rw} {J : It} {Q : VK} (hj : j < σ.length) (ht : ∀ q ∈ L, SqT X.K H1 q.1 (q.2.map V.int)) (hD : H1 D = none) (hz : L.length ≤ sizeLine)
    (hgo : ∀ (i : Nat) o, i < L.length → J.go i (upd H1 D o)) (hyld : ∀ (i : Nat) (o : HO) (v : V) (H' : Hp), J.yld i (upd H1 D o) v H' → H' = upd H1 D o ∧ ∃ r, L[i]? = some r ∧ v = .ref r.1) (hstop : ∀ o, J.stop L.length (upd H1 D o))
    (hQ : ∀ Mx, Dup L L.length Mx → Q (.ref D) (upd H1 D (DictO X.prog X.w D Mx))) :
    ∃ Wn : Nat → Nat → Hp → Prop, (∃ m, Wn 0 m (upd H1 D (DictO X.prog X.w D []))) ∧ ∀ i m Ha, Wn i m Ha →
      (J.stop i Ha ∧ Q (.ref D) Ha) ∨ (J.go i Ha ∧ ∃ Nx : Hp → Prop, (∀ Hb, Nx Hb → ∃ m', m' < m ∧ Wn (i + 1) m' Hb) ∧ ∀ x Hb, J.yld i Ha x Hb → gName j x (L2.wipe σ [j]) Hb fun σ2 H2 => L2.wipe σ2 [j] = L2.wipe σ [j] ∧
        tVar j σ2 H2 fun y H3 => tC (.bl true) σ2 H3 fun z H4 => ∃ (L : List DRow) (k : List Int) (b : Addr), y = .ref b ∧ H4 D = some (DictO X.prog X.w D L) ∧ L.length < sizeLine ∧ SqT X.K H4 b (k.map V.int) ∧ (∀ q ∈ L, SqT X.K H4 q.2.1 (q.1.map V.int)) ∧ ∀ u, RelV z u → Nx (upd H4 D (DictO X.prog X.w D (storedH L k b u)))) := by
  have up : ∀ o, ∀ q ∈ L, SqT X.K (upd H1 D o) q.1 (q.2.map V.int) := fun o q hq => sqT_up (Ex.new hD) (ht q hq)
  refine ⟨fun i m H => m = L.length - i ∧ i ≤ L.length ∧ ∃ Mx, Dup L i Mx ∧ H = upd H1 D (DictO X.prog X.w D Mx), ⟨L.length, by simp, by omega, [], ⟨fun _ z => (nomatch z), fun _ z => by simp at z, Nat.le_refl _⟩, rfl⟩, ?_⟩
  rintro i m Ha ⟨rfl, hi, Mx, g, rfl⟩
  by_cases hlt : i < L.length
  · refine .inr ⟨hgo i _ hlt, fun Hb => ∃ Mx', Dup L (i + 1) Mx' ∧ Hb = upd H1 D (DictO X.prog X.w D Mx'), fun Hb hb => ⟨L.length - (i + 1), by omega, rfl, by omega, hb⟩, fun v Hb hy => ?_⟩
    obtain ⟨rfl, r, hr, rfl⟩ := hyld i _ v Hb hy
    show L2.wipe ((L2.wipe σ [j]).set j (some (.ref r.1))) [j] = L2.wipe σ [j] ∧ _
    have lw : j < (L2.wipe σ [j]).length := by rw [wipe_length]; exact hj
    refine ⟨?_, ?_⟩
    · rw [wipe_off (js := [j]) (off_set (by simp)) fun _ z => z]
      exact wipe_off (js := [j]) ⟨wipe_length σ [j], fun i hi => wipe_out hi⟩ fun _ z => z
    · refine ⟨.ref r.1, by rw [List.getElem?_set_self lw], Mx, r.2, r.1, rfl, upd_same, ?_, up _ r (List.mem_of_getElem? hr), fun q hq => up _ (q.2.1, q.1) (g.sub q hq), fun u _ => ?_⟩
      · have := g.few; omega
      · exact ⟨_, g.next (u := u) hr, upd_twice⟩
  · have e : i = L.length := by omega
    subst e
    exact .inl ⟨hstop _, hQ Mx g⟩
theorem srt_out {B : Bs} {ρ : State} {τ : List (V × R)} {σ : L2.St} {H : Hp} {Hk : Hp} {w : Addr → Option Own} {Q : VK} {D : Addr} {L : List Rw} {ks : List (List Int)} (hI : StI X.K X.mg B Hk w ρ τ σ H) (f2 : L.map (·.2) = ks) (f3 : ∀ q ∈ L, SqT X.K Hk q.1 (q.2.map V.int)) (hne : ∀ k ∈ ks, k ≠ []) (hD : H D = none)
    (q : ∀ z H', St X.K X.mg B ρ ((z, .fr (.lst ((sortU ks).map rowD))) :: τ) σ H' → Q z H') {Mx : List DRow} (g : Dup L L.length Mx) : rSrtD X.K X.prog X.w [.ref D] (upd H D (DictO X.prog X.w D Mx)) Q := by
  have ek : Ex Hk (upd Hk D (DictO X.prog X.w D Mx)) := Ex.new (Evl.fresh_back hI.e1 hD)
  have h2 := hI.laidK (o := DictO X.prog X.w D Mx) hD
  have tup : ∀ q ∈ L, SqT X.K (upd Hk D (DictO X.prog X.w D Mx)) q.1 (q.2.map V.int) := fun q hq => sqT_up ek (f3 q hq)
  refine ⟨D, Mx, rfl, upd_same, fun q hq => hne _ (by rw [← f2]; exact List.mem_map.mpr ⟨_, g.sub q hq, rfl⟩), fun q hq => sqT_up h2.e1 (tup _ (g.sub q hq)), fun p L' pm nd pw hp => ?_⟩
  have inL : ∀ r ∈ L', r ∈ L := fun r hr => by
    obtain ⟨y, hy, e⟩ := List.mem_map.mp (pm.mem_iff.mp hr)
    rw [← e]
    exact g.sub y hy
  have er : L'.map (·.2) = sortU ks := ord_unique (rows_ord nd pw) (sortU_ord ks) fun z => by
    rw [mem_sortU, ← f2]
    constructor
    · intro hz
      obtain ⟨r, hr, rfl⟩ := List.mem_map.mp hz
      exact List.mem_map.mpr ⟨r, inL r hr, rfl⟩
    · intro hz
      obtain ⟨r, hr, rfl⟩ := List.mem_map.mp hz
      obtain ⟨y, hy, e⟩ := List.mem_map.mp (g.all r (by rw [List.take_length]; exact hr))
      refine List.mem_map.mpr ⟨(y.2.1, y.1), pm.mem_iff.mpr (List.mem_map.mpr ⟨y, hy, rfl⟩), e⟩
  refine q _ _ ⟨_, _, h2.laidO hp ⟨_, upd_same, ?_⟩⟩
  rw [← er]
  exact rows_rep fun r hr => tup r (inL r hr)
theorem tr_srtDict (xr : XR k X) (h : TrV X W e mv) {scope : Scope} {own : List (Str × Nat)} (ok : BlkOk X.N X.env.scope scope own) (ho : own.map (·.2) = [j])
    (bg : ∀ (s : Shared) (H : Hp) (C : Addr) (cl : List (Str × Addr)) (fp : List Addr), PG (Bk X scope s H C cl fp) (.Name y q3) (gName j)) (bk : ∀ (s : Shared) (H : Hp) (C : Addr) (cl : List (Str × Addr)) (fp : List Addr), PE (Bk X scope s H C cl fp) (.Name y q1) (tVar j))
    (hg : Gl X "sorted") (hm : X.mg "sorted" = none) (hs : ∀ x, foldedSetIterable e X.env x = pure x := by intro _; rfl)
    (he : starEach [.DictComp (.Name y q1) (.Constant (.bool true) kc q2) [⟨.Name y q3, e, [], 0⟩] scope pos2] X.env = (false, eval (.DictComp (.Name y q1) (.Constant (.bool true) kc q2) [⟨.Name y q3, e, [], 0⟩] scope pos2) X.env) :: starEach [] X.env := by rfl) (hpl : (backTo pos (starEach [] X.env)).any (·.1) = false := by rfl) :
    TrE X W (.Call (.Name "sorted" p) [.DictComp (.Name y q1) (.Constant (.bool true) kc q2) [⟨.Name y q3, e, [], 0⟩] scope pos2] [] pos) (mSrtDict j mv) := by
  intro B ρ τ σ H Q hs0 q
  have hu := xr.hu
  have go : ∀ wi, PI X (.Name y q3) e wi → wi σ H (fun J H1 => ∀ D, H1 D = none → ∃ Wn : Nat → Nat → Hp → Prop, (∃ m, Wn 0 m (upd H1 D (DictO X.prog X.w D []))) ∧ ∀ i m Ha, Wn i m Ha →
      (J.stop i Ha ∧ rSrtD X.K X.prog X.w [.ref D] Ha Q) ∨ (J.go i Ha ∧ ∃ Nx : Hp → Prop, (∀ Hb, Nx Hb → ∃ m', m' < m ∧ Wn (i + 1) m' Hb) ∧ ∀ x Hb, J.yld i Ha x Hb → gName j x (L2.wipe σ [j]) Hb fun σ2 H2 => L2.wipe σ2 [j] = L2.wipe σ [j] ∧
        tVar j σ2 H2 fun y H3 => tC (.bl true) σ2 H3 fun z H4 => ∃ (L : List DRow) (k : List Int) (b : Addr), y = .ref b ∧ H4 D = some (DictO X.prog X.w D L) ∧ L.length < sizeLine ∧ SqT X.K H4 b (k.map V.int) ∧ (∀ q ∈ L, SqT X.K H4 q.2.1 (q.1.map V.int)) ∧ ∀ u, RelV z u → Nx (upd H4 D (DictO X.prog X.w D (storedH L k b u))))) →
      AnyE X (.Call (.Name "sorted" p) [.DictComp (.Name y q1) (.Constant (.bool true) kc q2) [⟨.Name y q3, e, [], 0⟩] scope pos2] [] pos) σ H Q := by
    intro wi hw hh
    refine ⟨tCB (rSrtD X.K X.prog X.w) (tCons (tDr X.K X.prog X.w wi (gName j) (tVar j) (tC (.bl true)) (own.map (·.2))) tNil), pe_callB (cr_srtD xr) hg hm boot_sorted (pa_cons (pe_rows (by omega) xr.calm xr.nd hw ok bg bk (fun _ _ _ _ _ => pe_bl) hs) pa_nil he) (by decide) (by decide) he hpl, ?_⟩
    rw [ho]
    exact hh
  have q : PostE X.K X.mg B W τ σ Q ((mv ρ).then fun d => fun ρ => if j < ρ.length then M.opt (dSrtDict d) ρ else .er) := q
  cases h1 : mv ρ with
  | er => rw [h1] at q; exact q.elim
  | ex c ns ds ρ' =>
    rw [h1] at q
    exact go (iList X.K (AnyE X e)) (pi_list pe_any) (h B ρ τ σ H _ hs0 (by rw [h1]; exact q))
  | ok d ρ1 =>
    rw [h1] at q
    have q : PostE X.K X.mg B W τ σ Q (if j < ρ1.length then M.opt (dSrtDict d) ρ1 else .er) := q
    split at q
    · rename_i hj
      obtain ⟨r, er, kq⟩ := post_opt q
      cases d <;> simp only [dSrtDict, reduceCtorEq] at er
      · obtain ⟨ks, rfl, hne, hz, rfl⟩ := rows_some er
        refine go (iTup X.K (AnyE X e)) (pi_tup pe_any) (h B ρ τ σ H _ hs0 ?_)
        rw [h1]
        rintro v H1 ⟨Hk, w, hI, vw⟩
        obtain ⟨a, xs, rfl, hx, rx⟩ := vw.tup hI.e1
        obtain ⟨L, rfl, f2, f3⟩ := rep_rows rx
        have hl : L.length ≤ sizeLine := by rw [← f2, List.length_map] at hz; exact hz
        refine ⟨a, rfl, ⟨_, hx⟩, fun D hD => dict_turns (J := Itt X.K a) (Q := fun v H => rSrtD X.K X.prog X.w [v] H Q) (by rw [← hI.len]; exact hj) (fun q hq => sqT_up hI.e1 (f3 q hq)) hD hl ?_ ?_ ?_ fun Mx g => srt_out hI f2 f3 hne hD kq g⟩
        · intro i o hi
          exact ⟨_, _, sqT_up (Ex.new hD) hx, by rw [List.getElem?_map, List.getElem?_eq_getElem hi]; rfl⟩
        · rintro i o v H' ⟨rfl, hy⟩
          exact ⟨rfl, row_at (hy _ (sqT_up (Ex.new hD) hx))⟩
        · intro o
          exact ⟨_, sqT_up (Ex.new hD) hx, by rw [List.length_map]; exact Nat.le_refl _⟩
      · obtain ⟨ks, rfl, hne, hz, rfl⟩ := rows_some er
        refine go (iList X.K (AnyE X e)) (pi_list pe_any) (h B ρ τ σ H _ hs0 ?_)
        rw [h1]
        rintro v H1 ⟨Hk, w, hI, vw⟩
        obtain ⟨a, xs, rfl, hx, rx⟩ := vw.lst hI.e1
        obtain ⟨L, rfl, f2, f3⟩ := rep_rows rx
        have hl : L.length ≤ sizeLine := by rw [← f2, List.length_map] at hz; exact hz
        have hx' : ∀ D o, H1 D = none → SqL X.K (upd H1 D o) a (L.map fun q => V.ref q.1) := fun D o hD => SqL.of (Ex.new hD _ _ hx)
        refine ⟨a, rfl, ⟨_, SqL.of hx⟩, fun D hD => dict_turns (J := Itl X.K a) (Q := fun v H => rSrtD X.K X.prog X.w [v] H Q) (by rw [← hI.len]; exact hj) (fun q hq => sqT_up hI.e1 (f3 q hq)) hD hl ?_ ?_ ?_ fun Mx g => srt_out hI f2 f3 hne hD kq g⟩
        · intro i o hi
          exact ⟨_, _, hx' D o hD, by rw [List.getElem?_map, List.getElem?_eq_getElem hi]; rfl⟩
        · rintro i o v H' ⟨rfl, hy⟩
          exact ⟨rfl, row_at (hy _ (hx' D o hD))⟩
        · intro o
          exact ⟨_, hx' D o hD, by rw [List.length_map]; exact Nat.le_refl _⟩
    · exact q.elim
end
end Vy
namespace Vy
open PySem PySem.Spec PyProof.Rows L2
open Evl (Ex)
theorem XR.blk {X : Cx} {k : Nat} {scope : Scope} {s : Shared} {H : Hp} {C : Addr} {cl : List (Str × Addr)} {fp : List Addr} (xr : XR k X) : XR k (Bk X scope s H C cl fp) := ⟨xr.room, xr.gd, xr.calm, xr.nd⟩
theorem FnG.up {P : Program} {w : World} {K : PySem.W.Frag} {mg : Str → Option Value} {base : Heap} {j k : Nat} {f : Addr} {fd : FuncData} {ps : List Str} {sp : Sp} (G : FnG P w K mg base j f fd ps sp) (h : j ≤ k) : FnG P w K mg base k f fd ps sp :=
  ⟨G.len, fun A outer s H args us vs Q E hr => G.run A outer s H args us vs Q E (hr.mono h)⟩
/-- a def of that name may be called: n arguments, depth k, it does F -/
def Cal (P : Program) (w : World) (K : PySem.W.Frag) (mg : Str → Option Value) (base : Heap) (x : Str) (n k : Nat) (F : Fn) : Prop :=
  ∃ (f : Addr) (fd : FuncData) (ps : List Str), mg x = some (.ref f) ∧ PySem.W.keepIn K (.ref f) = true ∧ Binds K fd ps [] ∧ FnG P w K mg base k f fd ps (spD K mg F n)
theorem cal_mk {P : Program} {w : World} {K : PySem.W.Frag} {mg : Str → Option Value} {base : Heap} {x : Str} {st : Stmt} {f : Addr} {fd : FuncData} {N ps : List Str} {k : Nat} {m : M Fl} (F : Fun K x x st f fd) (hm : mg x = some (.ref f)) (S : FnScope N ps (defScope st))
    (hbind : ∀ (kV doc pm : Value) (an : Option Addr) (cdv ct : Value) (us : List Value), us.length = ps.length → bindArgs (PySem.W.fnOf x x (defArgs st) (defBody st) (defScope st) .none kV doc pm an cdv ct) ⟨us, []⟩ = pure (ps.zip us))
    (hb : ∀ (cdv : Value) (A : Around) (outer : List Env) (s : Shared) (H : Hp) (E : XK), XR k (cxOf (L2.CX P w) P w K mg base N x (defScope st) f cdv A outer s H E) → PassesOwn (model P w) (A.deeper (envOfC x (defScope st) s.heap.objs.size f cdv)) (envOfC x (defScope st) s.heap.objs.size f cdv) (cxOf (L2.CX P w) P w K mg base N x (defScope st) f cdv A outer s H E).xe →
      Takes (cxOf (L2.CX P w) P w K mg base N x (defScope st) f cdv A outer s H E) (wOf E) → TrSs (cxOf (L2.CX P w) P w K mg base N x (defScope st) f cdv A outer s H E) (wOf E) (defBody st) m) : Cal P w K mg base x ps.length (k + 1) (bodyF N.length m) :=
  ⟨f, fd, ps, hm, F.kp, F.binds hbind, fn_body F S hb⟩
section
variable {X : Cx} {W : WX} {e a b c tg : Expr} {es : List Expr} {m ma mb : M R} {ms : M (List R)} {i j l : Nat} {x y z : Str} {pos p p' : Pos} {k k' : Nat} {F : Fn}
theorem tr_fn (C : Cal X.prog X.w X.K X.mg X.base x (es.length + 1) k F) (xr : XR k' X) (pw : ∀ σ, PassesAt (L2.CX X.prog X.w) X σ (WE W σ)) (ha : TrA X W (e :: es) ms) (hl : LenA ms (es.length + 1)) (hk : k ≤ k' := by decide) (hg : Gl X x := by rfl)
    (hdb : (x == ("__debug__" : Str)) = false := by decide) (he : starEach (e :: es) X.env = (false, eval e X.env) :: starEach es X.env := by rfl) (hpl : (backTo pos (starEach es X.env)).any (·.1) = false := by rfl) : TrE X W (.Call (.Name x p) (e :: es) [] pos) (mCall F ms) := by
  obtain ⟨f, fd, ps, hm, hkp, hb, G⟩ := C
  exact tr_call (G.up hk) xr pw hg hm hkp hb ha hl hdb he hpl
theorem tr_fn0 (C : Cal X.prog X.w X.K X.mg X.base x 0 k F) (xr : XR k' X) (pw : ∀ σ, PassesAt (L2.CX X.prog X.w) X σ (WE W σ)) (hk : k ≤ k' := by decide) (hg : Gl X x := by rfl) (hdb : (x == ("__debug__" : Str)) = false := by decide) : TrE X W (.Call (.Name x p) [] [] pos) (mCall F mNil) := by
  obtain ⟨f, fd, ps, hm, hkp, hb, G⟩ := C
  exact tr_call0 (G.up hk) xr pw hg hm hkp hb hdb
theorem tr_fnIO {p0 : Pos} {x0 : Str} (C : Cal X.prog X.w X.K X.mg X.base x (es.length + 1) k F) (xr : XR k' X) (pw : ∀ σ, PassesAt (L2.CX X.prog X.w) X σ (WE W σ)) (ha : TrA X W es ms) (hl : LenA ms es.length) (hk : k ≤ k' := by decide) (hg : Gl X x := by rfl)
    (hN : X.N[i]? = some x0 := by rfl) (hv : Vis X.env.scope x0 := by first | exact Or.inl rfl | exact Or.inr (Or.inl rfl) | exact Or.inr (Or.inr rfl)) (hd0 : (x0 == ("__debug__" : Str)) = false := by decide) (hcd0 : (x0 == ("__classdict__" : Str)) = false := by decide)
    (hdb : (x == ("__debug__" : Str)) = false := by decide) (he : starEach (.Name x0 p0 :: es) X.env = (false, eval (.Name x0 p0) X.env) :: starEach es X.env := by rfl) (hpl : (backTo pos (starEach es X.env)).any (·.1) = false := by rfl) : TrE X W (.Call (.Name x p) (.Name x0 p0 :: es) [] pos) (mCallIO i F ms) := by
  obtain ⟨f, fd, ps, hm, hkp, hb, G⟩ := C
  exact tr_callIO (G.up hk) xr pw hg hm hkp hb ha hl hN hv hd0 hcd0 hdb he hpl
theorem tr_const {i : Int} (h : ∃ t : Tok, X.mg x = some (.int i t)) (hg : Gl X x := by rfl) (hd : (x == ("__debug__" : Str)) = false := by decide) : TrE X W (.Name x pos) (mC (.int i)) := by
  obtain ⟨t, h⟩ := h
  exact tr_globI hg h hd
theorem tr_constS {i : Str} (h : ∃ t : Tok, X.mg x = some (.str i t)) (hg : Gl X x := by rfl) (hd : (x == ("__debug__" : Str)) = false := by decide) : TrE X W (.Name x pos) (mC (.str i)) := by
  obtain ⟨t, h⟩ := h
  exact tr_globS hg h hd
/-- a, b, c = e1, e2, e3 -/
theorem trs_par3 {kt k2 : Nat} {pt pt2 px py pz : Pos} (h : TrA X W [a, b, c] ms) (hc : X.calm = true) (xn : X.N.Nodup) (hi : X.N[i]? = some x := by rfl) (hj : X.N[j]? = some y := by rfl) (hl : X.N[l]? = some z := by rfl) (hij : i ≠ j := by decide) (hil : i ≠ l := by decide) (hjl : j ≠ l := by decide)
    (hx : X.env.scope.names.lookup x = some .local := by rfl) (hy : X.env.scope.names.lookup y = some .local := by rfl) (hz : X.env.scope.names.lookup z = some .local := by rfl)
    (hw : swappedStores [.Tuple [.Name x px, .Name y py, .Name z pz] kt pt] (.Tuple [a, b, c] k2 pt2) X.env = pure (some [x, y, z]) := by rfl) (hs : swapsWithSole [.Tuple [.Name x px, .Name y py, .Name z pz] kt pt] (.Tuple [a, b, c] k2 pt2) pos.line X.env = pure false := by rfl) :
    TrS X W (.Assign [.Tuple [.Name x px, .Name y py, .Name z pz] kt pt] (.Tuple [a, b, c] k2 pt2) pos) (mPar3 i j l ms) := by
  intro B ρ τ σ H D hst q
  refine ⟨tPar3 i j l (AnyA X [a, b, c]), ps_par3 hc xn hi hj hl hij hil hjl hx hy hz pa_any hw hs, h B ρ τ σ H _ hst ?_⟩
  have q : PostS X.K X.mg B W τ D ((ms ρ).then fun rs => match rs with
    | [x, y, z] => M.sto (put l z) >>= fun _ => M.sto (put j y) >>= fun _ => M.sto (put i x) >>= fun _ => pure .nx
    | _ => M.fail) := q
  cases h1 : ms ρ with
  | er => rw [h1] at q; exact q
  | ex c ns ds ρ' => rw [h1] at q; exact q σ
  | ok rs ρ1 =>
    rw [h1] at q
    intro vs H' hl hs'
    match rs, vs, hl, q, hs' with
    | [r1, r2, r3], [v1, v2, v3], _, q, hs' =>
      refine ⟨v1, v2, v3, rfl, ?_⟩
      have q : PostS X.K X.mg B W τ D ((M.sto (put l r3) >>= fun _ => M.sto (put j r2) >>= fun _ => M.sto (put i r1) >>= fun _ => pure .nx) ρ1) := q
      obtain ⟨ρ2, h2, q⟩ := sto_post q
      obtain ⟨ρ3, h3, q⟩ := sto_post q
      obtain ⟨ρ4, h4, q⟩ := sto_post q
      have s3 := put_st h4 (put_st h3 (put_st h2 hs'))
      have e : ((σ.set i (some v1)).set j (some v2)).set l (some v3) = ((σ.set l (some v3)).set j (some v2)).set i (some v1) := by
        have e1 : (σ.set i (some v1)).set j (some v2) = (σ.set j (some v2)).set i (some v1) := List.set_comm _ _ hij
        have e2 : ((σ.set j (some v2)).set i (some v1)).set l (some v3) = ((σ.set j (some v2)).set l (some v3)).set i (some v1) := List.set_comm _ _ hil
        have e3 : (σ.set j (some v2)).set l (some v3) = (σ.set l (some v3)).set j (some v2) := List.set_comm _ _ hjl
        rw [e1, e2, e3]
      rw [e]
      exact q _ _ s3
    | [], _, _, q, _ => exact q.elim
    | [_], _, _, q, _ => exact q.elim
    | [_, _], _, _, q, _ => exact q.elim
    | _ :: _ :: _ :: _ :: _, _, _, q, _ => exact q.elim
end
end Vy
/-! ### programs on data, run by simp -/
namespace Vy
open PySem PySem.Spec PyProof.Rows L2
section
variable {α β : Type} {ρ ρ' : State} {i j l : Nat} {d d' x y z : D} {r : R}
@[simp] theorem ev_bind (m : M α) (f : α → M β) : (m >>= f) ρ = (m ρ).then f := (rfl)
@[simp] theorem ev_then (a : α) (f : α → M β) : (Res.ok a ρ).then f = f a ρ := (rfl)
@[simp] theorem ev_thenE (f : α → M β) : (Res.er : Res α).then f = .er := (rfl)
@[simp] theorem ev_thenX {c : Str} {ns : List Str} {ds : List D} (f : α → M β) : (Res.ex c ns ds ρ : Res α).then f = .ex c ns ds ρ := (rfl)
@[simp] theorem ev_pure (a : α) : (pure a : M α) ρ = .ok a ρ := (rfl)
@[simp] theorem ev_fail : (M.fail : M α) ρ = .er := (rfl)
@[simp] theorem ev_opt (a : α) : M.opt (some a) ρ = .ok a ρ := (rfl)
@[simp] theorem ev_optN : M.opt (none : Option α) ρ = .er := (rfl)
@[simp] theorem ev_seq (m n : M Fl) : mSeq m n ρ = (m ρ).then fun f => flow f n := (rfl)
@[simp] theorem ev_flow (m : M Fl) : flow .nx m = m := (rfl)
@[simp] theorem ev_flowR (m : M Fl) : flow (.rt r) m ρ = .ok (.rt r) ρ := (rfl)
@[simp] theorem ev_flowB (m : M Fl) : flow .bk m ρ = .ok .bk ρ := (rfl)
@[simp] theorem ev_flowC (m : M Fl) : flow .ct m ρ = .ok .ct ρ := (rfl)
@[simp] theorem ev_nx : mNx ρ = .ok .nx ρ := (rfl)
@[simp] theorem ev_c : mC d ρ = .ok (.cl d) ρ := (rfl)
@[simp] theorem ev_ret (m : M R) : mRet m ρ = (m ρ).then fun r => pure (.rt r) := (rfl)
@[simp] theorem ev_drop (m : M R) : mDrop m ρ = (m ρ).then fun _ => pure .nx := (rfl)
@[simp] theorem ev_op (g : D → D → Option R) (ma mb : M R) : mOp g ma mb ρ = (ma ρ).then fun x => mb >>= fun y => M.opt (g x.d y.d) := (rfl)
@[simp] theorem ev_rd (g : D → Option R) (m : M D) : mRd g m ρ = (m ρ).then fun d => M.opt (g d) := (rfl)
@[simp] theorem ev_bool (m : M R) : mBool m ρ = (m ρ).then fun r => match r.d with
  | .bl b => pure b
  | _ => M.fail := (rfl)
@[simp] theorem ev_notT (m : M Bool) : mNotT m ρ = (m ρ).then fun b => pure (!b) := (rfl)
@[simp] theorem ev_andT (m n : M Bool) : mAndT m n ρ = (m ρ).then fun b => if b then n else pure false := (rfl)
@[simp] theorem ev_orT (m n : M Bool) : mOrT m n ρ = (m ρ).then fun b => if b then pure true else n := (rfl)
@[simp] theorem ev_andE (m n : M R) : mAndE m n ρ = (m ρ).then fun r => match r.d with
  | .bl true => n
  | .bl false => pure (.cl (.bl false))
  | _ => M.fail := (rfl)
@[simp] theorem ev_orE (m n : M R) : mOrE m n ρ = (m ρ).then fun r => match r.d with
  | .bl false => n
  | .bl true => pure (.cl (.bl true))
  | _ => M.fail := (rfl)
@[simp] theorem ev_notE (m : M R) : mNotE m ρ = (mBool m ρ).then fun b => pure (.cl (.bl (!b))) := (rfl)
@[simp] theorem ev_if (c : M Bool) (ma mb : M R) : mIf c ma mb ρ = (c ρ).then fun b => if b then ma else mb := (rfl)
@[simp] theorem ev_ifS (c : M Bool) (ma mb : M Fl) : mIfS c ma mb ρ = (c ρ).then fun b => if b then ma else mb := (rfl)
@[simp] theorem ev_ite {p : Prop} [Decidable p] (m n : M α) : (if p then m else n) ρ = if p then m ρ else n ρ := by split <;> rfl
@[simp] theorem ev_neg (m : M R) : mNeg m ρ = (m ρ).then fun r => M.opt (dNeg r.d) := (rfl)
@[simp] theorem ev_nil : mNil ρ = .ok [] ρ := (rfl)
@[simp] theorem ev_cons (m : M R) (ms : M (List R)) : mCons m ms ρ = (m ρ).then fun r => ms >>= fun rs => pure (r :: rs) := (rfl)
@[simp] theorem ev_tup (ms : M (List R)) : mTup ms ρ = (ms ρ).then fun rs => if rs.length ≤ sizeLine then pure (.cl (.tup (rs.map R.d))) else M.fail := (rfl)
@[simp] theorem ev_lst (ms : M (List R)) : mLst ms ρ = (ms ρ).then fun rs => if rs.length ≤ sizeLine then pure (.fr (.lst (rs.map R.d))) else M.fail := (rfl)
@[simp] theorem ev_ix (ma mb : M R) : mIx ma mb ρ = (ma ρ).then fun x => mb >>= fun y => M.opt (dIx x.d y.d) := (rfl)
@[simp] theorem ev_ixN (mb : M R) : mIxN i mb ρ = (mPeek i ρ).then fun _ => mb >>= fun y => mPeek i >>= fun d => M.opt (dIx d y.d) := (rfl)
@[simp] theorem ev_slN (ml mh : M (Option Int)) : mSlN i ml mh ρ = (mPeek i ρ).then fun _ => ml >>= fun lo => mh >>= fun hi => mPeek i >>= fun d => M.opt (dSl lo hi d) := (rfl)
@[simp] theorem ev_sl (ma : M R) (ml mh : M (Option Int)) : mSl ma ml mh ρ = (ma ρ).then fun x => ml >>= fun lo => mh >>= fun hi => M.opt (dSl lo hi x.d) := (rfl)
@[simp] theorem ev_oNo : mONo ρ = .ok none ρ := (rfl)
@[simp] theorem ev_oSome (m : M R) : mOSome m ρ = (m ρ).then fun r => match r.d with
  | .int i => pure (some i)
  | _ => M.fail := (rfl)
@[simp] theorem ev_peek : mPeek i ρ = match peekS ρ[i]? with
  | some d => .ok d ρ
  | none => .er := (rfl)
@[simp] theorem ev_var : mVar i ρ = match ρ[i]? with
  | some (.va d) => .ok (.cl d) ρ
  | some (.ow d) => .ok (.cl d) (ρ.set i (.va d))
  | _ => .er := (rfl)
@[simp] theorem ev_varO : mVarO i ρ = match ρ[i]? with
  | some (.va d) => .ok (.cl d) ρ
  | some (.ow d) => .ok (.fr d) (ρ.set i .no)
  | _ => .er := (rfl)
@[simp] theorem ev_val (m : M R) : mVal m ρ = match m ρ with
  | .ok r ρ' => .ok r.d ρ'
  | .ex c ns ds ρ' => .ex c ns ds ρ'
  | .er => .er := (rfl)
@[simp] theorem ev_set (m : M R) : mSet i m ρ = (m ρ).then fun r => M.sto (put i r) >>= fun _ => pure .nx := (rfl)
@[simp] theorem ev_sto (f : State → Option State) : M.sto f ρ = match f ρ with
  | some ρ' => .ok () ρ'
  | none => .er := (rfl)
@[simp] theorem ev_put : put i r ρ = match ρ[i]? with
  | none => none
  | some (.io _) => none
  | some _ => some (ρ.set i r.slot) := (rfl)
@[simp] theorem ev_gSet : gSet i d ρ = put i (.cl d) ρ := (rfl)
@[simp] theorem ev_gTup {is : List Nat} {ds : List D} : gTupD is (.tup ds) ρ = gSets is ds ρ := (rfl)
@[simp] theorem ev_gSets0 : gSets [] [] ρ = some ρ := (rfl)
@[simp] theorem ev_gSets1 {is : List Nat} {ds : List D} : gSets (i :: is) (d :: ds) ρ = (put i (.cl d) ρ).bind (gSets is ds) := (rfl)
@[simp] theorem ev_unpack (f : Tg) (m : M R) : mUnpack f m ρ = (m ρ).then fun r => M.sto (f r.d) >>= fun _ => pure .nx := (rfl)
@[simp] theorem ev_par (ms : M (List R)) : mPar i j ms ρ = (ms ρ).then fun rs => match rs with
  | [x, y] => M.sto (put j y) >>= fun _ => M.sto (put i x) >>= fun _ => pure .nx
  | _ => M.fail := (rfl)
@[simp] theorem ev_par3 (ms : M (List R)) : mPar3 i j l ms ρ = (ms ρ).then fun rs => match rs with
  | [x, y, z] => M.sto (put l z) >>= fun _ => M.sto (put j y) >>= fun _ => M.sto (put i x) >>= fun _ => pure .nx
  | _ => M.fail := (rfl)
@[simp] theorem ev_it (m : M R) : mIt m ρ = (m ρ).then fun r => M.opt (itemsOf r.d) := (rfl)
@[simp] theorem ev_range1 (m : M R) : mRange1 m ρ = (m ρ).then fun r => M.opt (range1 r.d) := (rfl)
@[simp] theorem ev_range2 (ma mb : M R) : mRange2 ma mb ρ = (ma ρ).then fun x => mb >>= fun y => M.opt (range2 x.d y.d) := (rfl)
@[simp] theorem ev_enum (m : M R) : mEnum m ρ = (m ρ).then fun r => M.opt ((seqOf r.d).map enumD) := (rfl)
@[simp] theorem ev_zip (ma mb : M R) : mZip ma mb ρ = (ma ρ).then fun x => mb >>= fun y => M.opt (zip2 x.d y.d) := (rfl)
@[simp] theorem ev_for (mi : M (List D)) (g : Tg) (nb : M Fl) : mFor mi g nb ρ = (mi ρ).then fun ds => forL g nb ds := (rfl)
@[simp] theorem ev_call (F : Fn) (ms : M (List R)) : mCall F ms ρ = (ms ρ).then fun rs => liftF F (rs.map fun r => .va r.d) := (rfl)
theorem ev_lift {F : Fn} {args : State} (h : F args = .ok r ρ') : liftF F args ρ = .ok r ρ := by unfold liftF; rw [h]
@[simp] theorem ev_callIO (F : Fn) (ms : M (List R)) : mCallIO i F ms ρ = (mPeek i ρ).then fun _ => ms >>= fun rs => liftIO i F (rs.map fun r => .va r.d) := (rfl)
theorem ev_liftIO {F : Fn} {args ρf : State} {sl sl' : Slot} (h0 : ρ[i]? = some sl) (h1 : ownD (some sl) = some d) (h : F (Slot.io d :: args) = .ok r ρf) (h2 : ρf[0]? = some (.io d')) (h3 : sl.put d' = some sl') : liftIO i F args ρ = .ok r (ρ.set i sl') := by
  unfold liftIO
  rw [h0]
  simp only [h1, h, h2, h3]
@[simp] theorem ev_lc {is : List Nat} (mi : M (List D)) (g : Tg) (mt : M Bool) (me : M R) : mLc is mi g mt me ρ = (mi ρ).then fun ds => lcL is g mt me ds [] := (rfl)
@[simp] theorem ev_m0 (f : List D → Option (D × List D)) : mM0 i f ρ = (mPeek i ρ).then fun d => match d with
  | .lst _ => upS i f
  | _ => M.fail := (rfl)
@[simp] theorem ev_m1 (f : D → List D → Option (D × List D)) (m : M R) : mM1 i f m ρ = (mPeek i ρ).then fun d => match d with
  | .lst _ => m >>= fun r => upS i (f r.d)
  | _ => M.fail := (rfl)
@[simp] theorem ev_upS (f : List D → Option (D × List D)) : upS i f ρ = match ρ[i]? with
  | none => .er
  | some sl => match ownD (some sl) with
    | some (.lst ds) => match f ds with
      | none => .er
      | some (d, ds') => match sl.put (.lst ds') with
        | some sl' => .ok (.cl d) (ρ.set i sl')
        | none => .er
    | _ => .er := (rfl)
@[simp] theorem ev_setIx (mi m : M R) : mSetIx i mi m ρ = (m ρ).then fun r => mPeek i >>= fun _ => mi >>= fun k => upS i (fSetI k.d r.d) >>= fun _ => pure .nx := (rfl)
@[simp] theorem ev_chain (g g' : D → D → Option R) (ma mb mc : M R) : mChain g g' ma mb mc ρ = (ma ρ).then fun x => mb >>= fun y => M.opt (g x.d y.d) >>= fun r => match r.d with
  | .bl true => mc >>= fun z => M.opt (g' y.d z.d)
  | .bl false => pure (.cl (.bl false))
  | _ => M.fail := (rfl)
@[simp] theorem ev_srtD (mv : M D) : mSrtDict j mv ρ = (mv ρ).then fun d => fun ρ => if j < ρ.length then M.opt (dSrtDict d) ρ else .er := (rfl)
@[simp] theorem ev_cl : (R.cl d).slot = .va d := (rfl)
@[simp] theorem ev_frL (ds : List D) : (R.fr (.lst ds)).slot = .ow (.lst ds) := (rfl)
@[simp] theorem ev_pvio : Slot.put (.io d) d' = some (.io d') := (rfl)
@[simp] theorem ev_pvow : Slot.put (.ow d) d' = some (.ow d') := (rfl)
@[simp] theorem ev_own1 : ownD (some (.io d)) = some d := (rfl)
@[simp] theorem ev_own2 : ownD (some (.ow d)) = some d := (rfl)
@[simp] theorem ev_p1 : peekS (some (.va d)) = some d := (rfl)
@[simp] theorem ev_p2 : peekS (some (.ow d)) = some d := (rfl)
@[simp] theorem ev_p3 : peekS (some (.io d)) = some d := (rfl)
theorem sz {n : Nat} (h : n ≤ 1000) : n ≤ sizeLine := Nat.le_trans h (by decide)
@[simp] theorem ev_s0 : (0 ≤ sizeLine) = True := eq_true (Nat.zero_le _)
@[simp] theorem ev_s1 : (1 ≤ sizeLine) = True := eq_true (by decide)
@[simp] theorem ev_s2 : (2 ≤ sizeLine) = True := eq_true (by decide)
@[simp] theorem ev_s3 : (3 ≤ sizeLine) = True := eq_true (by decide)
@[simp] theorem ev_s4 : (4 ≤ sizeLine) = True := eq_true (by decide)
@[simp] theorem ev_s5 : (5 ≤ sizeLine) = True := eq_true (by decide)
@[simp] theorem ev_s6 : (6 ≤ sizeLine) = True := eq_true (by decide)
@[simp] theorem ev_s7 : (7 ≤ sizeLine) = True := eq_true (by decide)
@[simp] theorem ev_s8 : (8 ≤ sizeLine) = True := eq_true (by decide)
/-! the operators -/
variable {a b : Int}
@[simp] theorem ev_addI : dAdd (.int a) (.int b) = some (.cl (.int (a + b))) := (rfl)
@[simp] theorem ev_subI : dSub (.int a) (.int b) = some (.cl (.int (a - b))) := (rfl)
theorem ev_mulI (h : a.natAbs < 2 ^ 64) : dMul (.int a) (.int b) = some (.cl (.int (a * b))) := by
  have e : small64 a = true := decide_eq_true h
  simp only [dMul, e, Bool.true_or, if_true]
theorem ev_mulR (h : b.natAbs < 2 ^ 64) : dMul (.int a) (.int b) = some (.cl (.int (a * b))) := by
  have e : small64 b = true := decide_eq_true h
  simp only [dMul, e, Bool.or_true, if_true]
theorem ev_divI (h : 0 < b) (h2 : b < 1073741824) : dDiv (.int a) (.int b) = some (.cl (.int (a / b))) := by
  have e : b ≠ 0 ∧ b.natAbs < 1073741824 := ⟨by omega, by omega⟩
  simp only [dDiv, e]
  rw [if_pos ⟨by simp [e.1], trivial⟩]
  rw [Int.fdiv_eq_ediv_of_nonneg _ (Int.le_of_lt h)]
theorem ev_modI (h : 0 < b) : dMod (.int a) (.int b) = some (.cl (.int (a % b))) := by
  have e : b ≠ 0 := by omega
  simp only [dMod, e, ne_eq, not_false_eq_true, if_true]
  rw [Int.fmod_eq_emod_of_nonneg _ (Int.le_of_lt h)]
@[simp] theorem ev_ltI : dLt (.int a) (.int b) = some (bR (decide (a < b))) := (rfl)
@[simp] theorem ev_leI : dLe (.int a) (.int b) = some (bR (decide (a ≤ b))) := (rfl)
@[simp] theorem ev_gtI : dGt (.int a) (.int b) = some (bR (decide (a > b))) := (rfl)
@[simp] theorem ev_geI : dGe (.int a) (.int b) = some (bR (decide (a ≥ b))) := (rfl)
@[simp] theorem ev_eqI : dEq (.int a) (.int b) = some (bR (decide (a = b))) := (rfl)
@[simp] theorem ev_neI : dNe (.int a) (.int b) = some (bR (!decide (a = b))) := (rfl)
@[simp] theorem ev_eqS {s t : Str} : dEq (.str s) (.str t) = some (bR (decide (s = t))) := (rfl)
@[simp] theorem ev_neS {s t : Str} : dNe (.str s) (.str t) = some (bR (!decide (s = t))) := (rfl)
@[simp] theorem ev_bR {c : Bool} : (bR c) = .cl (.bl c) := (rfl)
@[simp] theorem ev_negI : dNeg (.int a) = some (.cl (.int (-a))) := (rfl)
@[simp] theorem ev_lenT {xs : List D} : dLen (.tup xs) = some (.cl (.int xs.length)) := (rfl)
@[simp] theorem ev_lenL {xs : List D} : dLen (.lst xs) = some (.cl (.int xs.length)) := (rfl)
@[simp] theorem ev_intI : dInt (.int a) = some (.cl (.int a)) := (rfl)
@[simp] theorem ev_abs : dAbs (.int a) = some (.cl (.int a.natAbs)) := by
  have e : (if a < 0 then -a else a) = (a.natAbs : Int) := by split <;> omega
  simp [dAbs, e]
@[simp] theorem ev_tupL {xs : List D} : dTup (.lst xs) = some (.cl (.tup xs)) := (rfl)
@[simp] theorem ev_tupT {xs : List D} : dTup (.tup xs) = some (.cl (.tup xs)) := (rfl)
@[simp] theorem ev_items1 {xs : List D} : itemsOf (.lst xs) = some xs := (rfl)
@[simp] theorem ev_items2 {xs : List D} : itemsOf (.tup xs) = some xs := (rfl)
@[simp] theorem ev_seq1 {xs : List D} : seqOf (.lst xs) = some xs := (rfl)
@[simp] theorem ev_seq2 {xs : List D} : seqOf (.tup xs) = some xs := (rfl)
@[simp] theorem ev_zipT {xs ys : List D} : zip2 (.tup xs) (.tup ys) = some (zipD xs ys) := (rfl)
@[simp] theorem ev_zipL {xs ys : List D} : zip2 (.lst xs) (.lst ys) = some (zipD xs ys) := (rfl)
@[simp] theorem ev_sumL {xs : List D} : dSum (.lst xs) = (intsOf xs).map fun ns => .cl (.int ns.sum) := (rfl)
@[simp] theorem ev_max2 : dMax2 (.int a) (.int b) = some (.cl (.int (max a b))) := by
  have e : (if b > a then b else a) = max a b := by split <;> omega
  simp [dMax2, e]
@[simp] theorem ev_min2 : dMin2 (.int a) (.int b) = some (.cl (.int (min a b))) := by
  have e : (if b < a then b else a) = min a b := by split <;> omega
  simp [dMin2, e]
theorem ev_ixL {xs : List D} {n : Nat} (h : xs[n]? = some d) : dIx (.lst xs) (.int (n : Nat)) = some (.cl d) := by
  have e : ixD xs (n : Int) = some d := atI_nat h
  show (ixD xs (n : Int)).map R.cl = _
  rw [e]; rfl
theorem ev_ixT {xs : List D} {n : Nat} (h : xs[n]? = some d) : dIx (.tup xs) (.int (n : Nat)) = some (.cl d) := by
  have e : ixD xs (n : Int) = some d := atI_nat h
  show (ixD xs (n : Int)).map R.cl = _
  rw [e]; rfl
@[simp] theorem ev_ixT0 {xs : List D} : dIx (.tup (x :: xs)) (.int 0) = some (.cl x) := ev_ixT (n := 0) rfl
@[simp] theorem ev_ixT1 {xs : List D} : dIx (.tup (x :: y :: xs)) (.int 1) = some (.cl y) := ev_ixT (n := 1) rfl
@[simp] theorem ev_ixT2 {xs : List D} : dIx (.tup (x :: y :: z :: xs)) (.int 2) = some (.cl z) := ev_ixT (n := 2) rfl
@[simp] theorem ev_ixL0 {xs : List D} : dIx (.lst (x :: xs)) (.int 0) = some (.cl x) := ev_ixL (n := 0) rfl
@[simp] theorem ev_ixL1 {xs : List D} : dIx (.lst (x :: y :: xs)) (.int 1) = some (.cl y) := ev_ixL (n := 1) rfl
@[simp] theorem ev_ixL2 {xs : List D} : dIx (.lst (x :: y :: z :: xs)) (.int 2) = some (.cl z) := ev_ixL (n := 2) rfl
@[simp] theorem ev_ixL3 {xs : List D} {u : D} : dIx (.lst (x :: y :: z :: u :: xs)) (.int 3) = some (.cl u) := ev_ixL (n := 3) rfl
@[simp] theorem ev_ixL4 {xs : List D} {u t : D} : dIx (.lst (x :: y :: z :: u :: t :: xs)) (.int 4) = some (.cl t) := ev_ixL (n := 4) rfl
theorem ev_setI {n : Nat} {ds : List D} (h : n < ds.length) : fSetI (.int (n : Nat)) y ds = some (.non, ds.set n y) := by
  have e : ixN ds.length (n : Int) = some n := by
    unfold ixN
    rw [if_pos (by omega), if_pos (by omega)]
    simp
  show (ixN ds.length (n : Int)).map _ = _
  rw [e]; rfl
end
end Vy
/-! ### loops on data -/
namespace Vy
open PySem PySem.Spec PyProof.Rows L2
section
variable {g : Tg} {nb : M Fl} {ρ ρ' : State} {ds : List D} {d : D}
@[simp] theorem ev_forL0 : forL g nb [] ρ = .ok .nx ρ := (rfl)
theorem ev_forL1 (h : g d ρ = some ρ') : forL g nb (d :: ds) ρ = (nb ρ').then fun f => match f with
    | .nx => forL g nb ds
    | .ct => forL g nb ds
    | .bk => pure .nx
    | .rt r => pure (.rt r) := by
  show ((M.sto (g d)) ρ).then _ = _
  unfold M.sto
  rw [h]
  rfl
/-- a loop that goes on to its end -/
theorem forL_inv (I : Nat → State → Prop) (h0 : I 0 ρ) (step : ∀ i d ρ, ds[i]? = some d → I i ρ → ∃ ρ1 ρ2, g d ρ = some ρ1 ∧ (nb ρ1 = .ok .nx ρ2 ∨ nb ρ1 = .ok .ct ρ2) ∧ I (i + 1) ρ2) : ∃ ρ', forL g nb ds ρ = .ok .nx ρ' ∧ I ds.length ρ' := by
  have gen : ∀ (es : List D) (j : Nat) (ρ : State), (∀ i, es[i]? = ds[j + i]?) → I j ρ → ∃ ρ', forL g nb es ρ = .ok .nx ρ' ∧ I (j + es.length) ρ' := by
    intro es
    induction es with
    | nil => intro j ρ _ h; exact ⟨ρ, rfl, h⟩
    | cons d es ih =>
      intro j ρ he h
      have hd := he 0
      simp only [List.getElem?_cons_zero, Nat.add_zero] at hd
      obtain ⟨ρ1, ρ2, h1, h2, h3⟩ := step j d ρ hd.symm h
      obtain ⟨ρ', e1, e2⟩ := ih (j + 1) ρ2 (fun i => by have := he (i + 1); rw [List.getElem?_cons_succ] at this; rw [this]; congr 1; omega) h3
      refine ⟨ρ', ?_, by rw [List.length_cons, show j + (es.length + 1) = j + 1 + es.length by omega]; exact e2⟩
      rw [ev_forL1 h1]
      rcases h2 with h2 | h2 <;> rw [h2] <;> exact e1
  obtain ⟨ρ', e1, e2⟩ := gen ds 0 ρ (fun i => by rw [Nat.zero_add]) h0
  exact ⟨ρ', e1, by rw [Nat.zero_add] at e2; exact e2⟩
variable {mc : M Bool} {n : Nat} {b : Bool}
theorem ev_while1 (h : mc ρ = .ok true ρ') : whileN mc nb (n + 1) ρ = (nb ρ').then fun f => match f with
    | .nx => whileN mc nb n
    | .ct => whileN mc nb n
    | .bk => pure .nx
    | .rt r => pure (.rt r) := by
  show (mc ρ).then _ = _
  rw [h]
  rfl
theorem ev_while0 (h : mc ρ = .ok false ρ') : whileN mc nb (n + 1) ρ = .ok .nx ρ' := by
  show (mc ρ).then _ = _
  rw [h]
  rfl
/-- comprehensions -/
theorem lcL_flt {is : List Nat} {mt : M Bool} {me : M R} {ρ0 : State} (p : D → Bool) (F : D → D) : ∀ (ds acc : List D) (ρ : State), wipeR ρ is = ρ0 → acc.length + ds.length ≤ sizeLine →
    (∀ d ∈ ds, ∃ ρ1 ρ2, g d ρ0 = some ρ1 ∧ mt ρ1 = .ok (p d) ρ2 ∧ (p d = true → ∃ r ρ3, me ρ2 = .ok r ρ3 ∧ r.d = F d ∧ wipeR ρ3 is = ρ0) ∧ (p d = false → wipeR ρ2 is = ρ0)) →
    lcL is g mt me ds acc ρ = .ok (.fr (.lst (acc ++ (ds.filter p).map F))) ρ0
  | [], acc, ρ, hw, _, _ => by
    show Res.ok (R.fr (.lst acc)) (wipeR ρ is) = _
    rw [hw]; simp
  | d :: ds, acc, ρ, hw, hl, h => by
    obtain ⟨ρ1, ρ2, h1, h2, h3, h4⟩ := h d List.mem_cons_self
    have e : lcL is g mt me (d :: ds) acc ρ = (match g d (wipeR ρ is) with
      | none => .er
      | some ρ1 => (noEx mt >>= fun b => if b then noEx me >>= fun r => if acc.length < sizeLine then lcL is g mt me ds (acc ++ [r.d]) else M.fail else lcL is g mt me ds acc) ρ1) := (rfl)
    have hl : acc.length + (ds.length + 1) ≤ sizeLine := hl
    rw [e, hw, h1]
    simp only [ev_bind]
    rw [show noEx mt ρ1 = .ok (p d) ρ2 by unfold noEx; rw [h2]]
    rw [ev_then]
    cases hp : p d with
    | false =>
      rw [if_neg (by decide), lcL_flt p F ds acc ρ2 (h4 hp) (by omega) fun x hx => h x (List.mem_cons_of_mem _ hx), List.filter_cons_of_neg (by rw [hp]; decide)]
    | true =>
      obtain ⟨r, ρ3, k1, k2, k3⟩ := h3 hp
      rw [if_pos rfl, ev_bind, show noEx me ρ2 = .ok r ρ3 by unfold noEx; rw [k1], ev_then, if_pos (by omega), lcL_flt p F ds (acc ++ [r.d]) ρ3 k3 (by rw [List.length_append, List.length_singleton]; omega) fun x hx => h x (List.mem_cons_of_mem _ hx), List.filter_cons_of_pos hp, k2]
      simp
theorem lcL_map {is : List Nat} {me : M R} {ρ0 : State} (F : D → D) {ds : List D} (hw : wipeR ρ is = ρ0) (hl : ds.length ≤ sizeLine) (h : ∀ d ∈ ds, ∃ ρ1 r ρ3, g d ρ0 = some ρ1 ∧ me ρ1 = .ok r ρ3 ∧ r.d = F d ∧ wipeR ρ3 is = ρ0) :
    lcL is g (pure true) me ds [] ρ = .ok (.fr (.lst (ds.map F))) ρ0 := by
  have q := lcL_flt (g := g) (mt := pure true) (me := me) (fun _ => true) F ds [] ρ hw (by simpa using hl) fun d hd => by
    obtain ⟨ρ1, r, ρ3, h1, h2, h3, h4⟩ := h d hd
    exact ⟨ρ1, ρ1, h1, rfl, fun _ => ⟨r, ρ3, h2, h3, h4⟩, fun z => nomatch z⟩
  rw [q, List.filter_eq_self.mpr (fun _ _ => rfl), List.nil_append]
@[simp] theorem ev_st0 {x y : D} {r : List D} : fSetI (.int 0) y (x :: r) = some (.non, y :: r) := ev_setI (n := 0) (by simp)
@[simp] theorem ev_st1 {x y a : D} {r : List D} : fSetI (.int 1) y (a :: x :: r) = some (.non, a :: y :: r) := ev_setI (n := 1) (by simp)
@[simp] theorem ev_st2 {x y a b : D} {r : List D} : fSetI (.int 2) y (a :: b :: x :: r) = some (.non, a :: b :: y :: r) := ev_setI (n := 2) (by simp)
@[simp] theorem ev_st3 {x y a b c : D} {r : List D} : fSetI (.int 3) y (a :: b :: c :: x :: r) = some (.non, a :: b :: c :: y :: r) := ev_setI (n := 3) (by simp)
@[simp] theorem ev_st4 {x y a b c d : D} {r : List D} : fSetI (.int 4) y (a :: b :: c :: d :: x :: r) = some (.non, a :: b :: c :: d :: y :: r) := ev_setI (n := 4) (by simp)
theorem ev_liftE {F : Fn} {args : State} {r : R} (h : ∃ ρ', F args = .ok r ρ') : liftF F args ρ = .ok r ρ := by
  obtain ⟨ρ', h⟩ := h
  exact ev_lift h
@[simp] theorem ev_wipe0 : wipeR ρ [] = ρ := (rfl)
@[simp] theorem ev_wipe1 {i : Nat} {is : List Nat} : wipeR ρ (i :: is) = (wipeR ρ is).set i .no := (rfl)
end
end Vy
namespace Vy
open PySem PySem.Spec PyProof.Rows L2
open Evl (Ex)
/-! ### sorted(dict(pairs)) -/
abbrev PRow := Addr × Rw × V
theorem all_keys {z : List Int} : ∀ {ps xs : List DRow}, (z ∈ xs.map (·.1) ∨ z ∈ ps.map (·.1)) → z ∈ (storedAllH xs ps).map (·.1)
  | [], xs, h => by
    rcases h with h | h
    · exact h
    · simp at h
  | p :: ps, xs, h => by
    show z ∈ (storedAllH (storedH xs p.1 p.2.1 p.2.2) ps).map (·.1)
    refine all_keys ?_
    rcases h with h | h
    · exact .inl (stored_keys (.inl h))
    · rcases List.mem_cons.mp h with rfl | h
      · exact .inl (stored_keys (.inr rfl))
      · exact .inr h
def rDictP (K : PySem.W.Frag) (P : Program) (w : World) : List V → Hp → VK → Prop := fun xs H Q => ∃ (a : Addr) (ps : List PRow), xs = [.ref a] ∧ SqL K H a (ps.map fun p => V.ref p.1) ∧ (∀ p ∈ ps, SqT K H p.1 [.ref p.2.1.1, p.2.2] ∧ SqT K H p.2.1.1 (p.2.1.2.map V.int)) ∧
  ∀ D M, H D = none → (∀ q ∈ M, (q.2.1, q.1) ∈ ps.map (·.2.1)) → (∀ p ∈ ps, p.2.1.2 ∈ M.map (·.1)) → Q (.ref D) (upd H D (DictO P w D M))
section
variable {X : Cx} {k : Nat}
theorem pvals {pins : List (Addr × Obj)} {σ : L2.St} {H : Hp} {s : Shared} (I : Inv X pins σ H s) : ∀ {ps : List PRow}, (∀ p ∈ ps, SqT X.K H p.1 [.ref p.2.1.1, p.2.2] ∧ SqT X.K H p.2.1.1 (p.2.1.2.map V.int)) →
    ∃ M : List (Addr × DRow), M.map (fun q => (q.1, q.2.2.1, q.2.1)) = ps.map (fun p => (p.1, p.2.1.1, p.2.1.2)) ∧ ∀ q ∈ M, IsTup s.heap q.1 #[.ref q.2.2.1, q.2.2.2] ∧ IsT X.prog X.w s.heap q.2.1 q.2.2.1
  | [], _ => ⟨[], rfl, fun _ z => nomatch z⟩
  | p :: ps, h => by
    obtain ⟨M, e, hM⟩ := pvals I (ps := ps) fun q hq => h q (List.mem_cons_of_mem _ hq)
    obtain ⟨h1, h2⟩ := h p List.mem_cons_self
    obtain ⟨its, rv, ht, _⟩ := I.tuple h1
    obtain ⟨u, y, ei, ru, ry⟩ := vals2 rv
    subst ei
    cases ru
    refine ⟨(p.1, p.2.1.2, p.2.1.1, y) :: M, by rw [List.map_cons, e]; rfl, fun q hq => ?_⟩
    rcases List.mem_cons.mp hq with rfl | hq
    · exact ⟨ht, I.isT h2⟩
    · exact hM q hq
theorem cr_dictP (xr : XR k X) : CallR X (.type "dict") (rDictP X.K X.prog X.w) := by
  intro pins s σ H xs us Q I r h
  obtain ⟨a, ps, rfl, hq, hp, q⟩ := h
  rw [Vals.ref1 r]
  obtain ⟨its, rv, pl, hz⟩ := I.list hq
  have ei : its = (ps.map fun p => V.ref p.1).map fun v => match v with | .ref a => Value.ref a | _ => Value.none := by
    have := refs_at (ps := ps.map (·.1)) (us := its) (by rw [List.map_map]; exact rv)
    rw [this, List.map_map, List.map_map]
    rfl
  rw [List.map_map] at ei
  rw [List.length_map] at hz
  obtain ⟨M, e, hM⟩ := pvals I hp
  have hl : M.length = ps.length := by simpa using congrArg List.length e
  obtain ⟨o, n, ho, hc, hd, hdat⟩ := pl
  have at_ : ∀ j : Nat, (M[j]?).map (fun q => (q.1, q.2.2.1, q.2.1)) = (ps[j]?).map (fun p => (p.1, p.2.1.1, p.2.1.2)) := fun j => by
    rw [← List.getElem?_map, ← List.getElem?_map, e]
  have hu := xr.hu2
  refine call_dict_pairsH (knd := tupleKind (intKind X.prog X.w)) (ps := M.map (·.2)) (PairArg.list a its.toArray (fun j => (M[j]?.map (·.1)).getD 0) (M.map fun q => (Value.ref q.2.2.1, q.2.2.2))) (I.ok.hd xr.calm) (show X.A.units + 1 + 1 < cLine by omega) ⟨⟨o, n, ho, hc, hd, hdat⟩, ?_, fun j k v hj => ?_⟩ ⟨by simp, fun i key v hr => ?_⟩ ?_ (by rw [List.length_map, hl]; exact hz) fun h' tk hd' kp => ?_
  · rw [ei]; simp [hl]
  · rw [List.getElem?_map] at hj
    obtain ⟨m, hm, em⟩ := Option.map_eq_some_iff.mp hj
    cases em
    have := at_ j
    rw [hm] at this
    obtain ⟨p, hp', ep⟩ := Option.map_eq_some_iff.mp this.symm
    have e1 : p.1 = m.1 := congrArg (·.1) ep
    have tj : (M[j]?.map (·.1)).getD 0 = m.1 := by rw [hm]; rfl
    refine ⟨?_, .inl ?_⟩
    · show its.toArray[j]? = some (Value.ref ((M[j]?.map (·.1)).getD 0))
      rw [tj, ei, List.getElem?_toArray, List.getElem?_map, hp', ← e1]
      rfl
    · show s.heap.IsTuple ((M[j]?.map (·.1)).getD 0) _
      rw [tj]
      exact (hM m (List.mem_of_getElem? hm)).1
  · have hr : (M.map fun q => (Value.ref q.2.2.1, q.2.2.2))[i]? = some (key, v) := hr
    rw [List.getElem?_map] at hr
    obtain ⟨m, hm, em⟩ := Option.map_eq_some_iff.mp hr
    cases em
    exact ⟨m.2.1, m.2.2.1, by rw [List.getElem?_map, hm]; rfl, rfl⟩
  · intro h2 hk x hx
    obtain ⟨m, hm, rfl⟩ := List.mem_map.mp hx
    have t := (hM m hm).2
    obtain ⟨o1, i1, n1, g1, g2⟩ := t
    exact ⟨o1, i1, n1, hk _ _ (Nat.ne_of_lt (Heap.lt_size g1)) (fun z => nomatch z) g1, g2⟩
  · have hm : (s.heap.objs.size == sysModules) = false := beq_eq_false_iff_ne.mpr (Nat.ne_of_gt I.big)
    have hlen : (storedAllH [] (M.map (·.2))).length ≤ sizeLine := by
      refine Nat.le_trans (storedAllH_length _ _) ?_
      rw [List.length_map, hl]
      simpa using hz
    obtain ⟨o2, es, ep, q1, q2, q3, q4, _, q5⟩ := hd'
    refine ⟨.ref s.heap.objs.size, upd H s.heap.objs.size (DictO X.prog X.w s.heap.objs.size (storedAllH [] (M.map (·.2)))), I.laid (t' := tk) (fun b o e => kp b o (fun z => nomatch z) e) (Nat.le_refl _) (dictO_ok ⟨hm, hlen, o2, es, ep, q1, q2, q3, q4, q5⟩), rfl, q _ _ (I.hok.fresh (Nat.le_refl _)) ?_ ?_⟩
    · have : ∀ x ∈ storedAllH [] (M.map (·.2)), (x.2.1, x.1) ∈ ps.map (·.2.1) := storedAllH_keys (P := fun k b => (b, k) ∈ ps.map (·.2.1)) (fun x hx => absurd hx List.not_mem_nil) fun x hx => by
        obtain ⟨m, hm, rfl⟩ := List.mem_map.mp hx
        have z : (m.1, m.2.2.1, m.2.1) ∈ M.map (fun q => (q.1, q.2.2.1, q.2.1)) := List.mem_map.mpr ⟨m, hm, rfl⟩
        rw [e] at z
        obtain ⟨p, hp', ep⟩ := List.mem_map.mp z
        refine List.mem_map.mpr ⟨p, hp', ?_⟩
        exact congrArg (·.2) ep
      exact this
    · intro p hp'
      refine all_keys (.inr ?_)
      have z : (p.1, p.2.1.1, p.2.1.2) ∈ ps.map (fun p => (p.1, p.2.1.1, p.2.1.2)) := List.mem_map.mpr ⟨p, hp', rfl⟩
      rw [← e] at z
      obtain ⟨m, hm, em⟩ := List.mem_map.mp z
      rw [List.map_map]
      refine List.mem_map.mpr ⟨m, hm, ?_⟩
      exact congrArg (·.2.2) em
end
/-- the keys of pairs (key, value) -/
def pairRows : List D → Option (List (List Int))
  | [] => some []
  | .tup [.tup xs, _] :: ds => match intsOf xs, pairRows ds with
    | some (i :: is), some ks => some ((i :: is) :: ks)
    | _, _ => none
  | _ :: _ => none
def dSrtPairs : D → Option R
  | .lst ds => match pairRows ds with
    | some ks => some (.fr (.lst ((sortU ks).map rowD)))
    | none => none
  | _ => none
theorem pairRows_of {K : PySem.W.Frag} {mg : Str → Option Value} {H : Hp} : ∀ {ds : List D} {ks : List (List Int)} {xs : List V}, pairRows ds = some ks → RepL K mg H xs ds → ∃ ps : List PRow, xs = ps.map (fun p => V.ref p.1) ∧ ps.map (·.2.1.2) = ks ∧ (∀ k ∈ ks, k ≠ []) ∧ ∀ p ∈ ps, SqT K H p.1 [.ref p.2.1.1, p.2.2] ∧ SqT K H p.2.1.1 (p.2.1.2.map V.int)
  | [], ks, xs, h, r => by
    cases h; cases r
    exact ⟨[], rfl, rfl, by simp, by simp⟩
  | d :: ds, ks, xs, h, r => by
    cases r with
    | cons h0 r0 =>
      unfold pairRows at h
      split at h
      · rename_i heq; cases heq
      · rename_i xs0 v0 ds0 heq
        cases heq
        cases h1 : intsOf xs0 with
        | none => rw [h1] at h; simp at h
        | some is =>
          cases h2 : pairRows ds with
          | none => rw [h1, h2] at h; cases is <;> simp at h
          | some ms =>
            rw [h1, h2] at h
            cases is with
            | nil => simp at h
            | cons i is =>
              cases h
              obtain ⟨ps, e1, e2, e3, e4⟩ := pairRows_of h2 r0
              cases h0 with
              | tup hs hr =>
                rename_i pa xs'
                cases hr with
                | cons hk hr =>
                  cases hr with
                  | cons hv hr =>
                    cases hr
                    cases hk with
                    | tup hs2 hr2 =>
                      rename_i vv ka xs2
                      rw [intsOf_eq h1] at hr2
                      rw [repL_ints hr2] at hs2
                      refine ⟨(pa, (ka, i :: is), vv) :: ps, by rw [e1]; rfl, by rw [List.map_cons, e2], fun k hk => ?_, fun p hp => ?_⟩
                      · rcases List.mem_cons.mp hk with rfl | hk
                        · simp
                        · exact e3 k hk
                      · rcases List.mem_cons.mp hp with rfl | hp
                        · exact ⟨hs, hs2⟩
                        · exact e4 p hp
      · cases h
section
variable {X : Cx} {W : WX} {e a b tg : Expr} {mv : M D} {i j : Nat} {x y z : Str} {pos p p' p2 pos2 : Pos} {k : Nat}
theorem tr_srtPairs (xr : XR k X) (h : TrV X W a mv) (hg : Gl X "sorted") (hm : X.mg "sorted" = none) (hg2 : Gl X "dict") (hm2 : X.mg "dict" = none)
    (he : starEach [.Call (.Name "dict" p2) [a] [] pos2] X.env = (false, eval (.Call (.Name "dict" p2) [a] [] pos2) X.env) :: starEach [] X.env := by rfl) (he2 : starEach [a] X.env = (false, eval a X.env) :: starEach [] X.env := by rfl)
    (hpl : (backTo pos (starEach [] X.env)).any (·.1) = false := by rfl) (hpl2 : (backTo pos2 (starEach [] X.env)).any (·.1) = false := by rfl) : TrE X W (.Call (.Name "sorted" p) [.Call (.Name "dict" p2) [a] [] pos2] [] pos) (mRd dSrtPairs mv) := by
  intro B ρ τ σ H Q hs q
  refine ⟨tCB (rSrtD X.K X.prog X.w) (tCons (tCB (rDictP X.K X.prog X.w) (tCons (AnyE X a) tNil)) tNil), pe_callB (cr_srtD xr) hg hm boot_sorted (pa_cons (pe_callTy (cr_dictP xr) hg2 hm2 (by decide +kernel) (pa_cons pe_any pa_nil he2) (by decide) (by decide) he2 hpl2) pa_nil he) (by decide) (by decide) he hpl, h B ρ τ σ H _ hs
    (rd_post (f := fun v H Q => rDictP X.K X.prog X.w [v] H fun u H1 => rSrtD X.K X.prog X.w [u] H1 Q) ?_ q)⟩
  intro B ρ τ σ H Q v d r e ⟨Hk, w, hI, vw⟩ q
  cases d <;> simp only [dSrtPairs, reduceCtorEq] at e
  rename_i ds
  cases hr : pairRows ds with
  | none => rw [hr] at e; simp at e
  | some ks =>
    rw [hr] at e
    cases e
    obtain ⟨l, xs, rfl, hx, rx⟩ := vw.lst hI.e1
    obtain ⟨ps, rfl, f2, f3, f4⟩ := pairRows_of hr rx
    refine ⟨l, ps, rfl, SqL.of hx, fun q hq => ⟨sqT_up hI.e1 (f4 q hq).1, sqT_up hI.e1 (f4 q hq).2⟩, fun D M hn s1 s2 => ?_⟩
    have ek : Ex Hk (upd Hk D (DictO X.prog X.w D M)) := Ex.new (Evl.fresh_back hI.e1 hn)
    have h2 := hI.laidK (o := DictO X.prog X.w D M) hn
    have inP : ∀ q ∈ M, ∃ p ∈ ps, p.2.1 = (q.2.1, q.1) := fun q hq => by
      obtain ⟨p, hp, e⟩ := List.mem_map.mp (s1 q hq)
      exact ⟨p, hp, e⟩
    have key : ∀ q ∈ M, q.1 ≠ [] := fun q hq => by
      obtain ⟨p, hp, e⟩ := inP q hq
      refine f3 _ (by rw [← f2]; exact List.mem_map.mpr ⟨p, hp, by rw [e]⟩)
    have tup : ∀ q ∈ M, SqT X.K (upd Hk D (DictO X.prog X.w D M)) q.2.1 (q.1.map V.int) := fun q hq => by
      obtain ⟨p, hp, e⟩ := inP q hq
      have := sqT_up ek (f4 p hp).2
      rw [e] at this
      exact this
    refine ⟨D, M, rfl, upd_same, key, fun q hq => sqT_up h2.e1 (tup q hq), fun p L' pm nd pw hp => ?_⟩
    have er : L'.map (·.2) = sortU ks := ord_unique (rows_ord nd pw) (sortU_ord ks) fun z => by
      rw [mem_sortU, ← f2]
      constructor
      · intro hz
        obtain ⟨r, hr, rfl⟩ := List.mem_map.mp hz
        obtain ⟨y, hy, e⟩ := List.mem_map.mp (pm.mem_iff.mp hr)
        obtain ⟨p, hp, e'⟩ := inP y hy
        exact List.mem_map.mpr ⟨p, hp, by rw [e', ← e]⟩
      · intro hz
        obtain ⟨r, hr, rfl⟩ := List.mem_map.mp hz
        obtain ⟨y, hy, e⟩ := List.mem_map.mp (s2 r hr)
        exact List.mem_map.mpr ⟨(y.2.1, y.1), pm.mem_iff.mpr (List.mem_map.mpr ⟨y, hy, rfl⟩), e⟩
    refine q _ _ ⟨_, _, h2.laidO hp ⟨_, upd_same, ?_⟩⟩
    rw [← er]
    refine rows_rep fun r hr => ?_
    obtain ⟨y, hy, e⟩ := List.mem_map.mp (pm.mem_iff.mp hr)
    rw [← e]
    exact sqT_up (fun _ _ z => z) (tup y hy)
end
end Vy
namespace Vy
open PySem PySem.Spec PyProof.Rows L2
open Evl (Ex)
/-! ### repr of data that may hold dicts -/
def keyPy : Key → PyData
  | .inl i => .int i
  | .inr x => .str x
mutual
def D.pyS : D → Option PyData
  | .non => some .none
  | .bl b => some (.bool b)
  | .int i => some (.int i)
  | .str x => some (.str x)
  | .tup xs => (pySL xs).map .tuple
  | .lst xs => (pySL xs).map .list
  | .dct ks xs => (pySL xs).map fun ps => .dict ((ks.map keyPy).zip ps)
  | _ => none
def pySL : List D → Option (List PyData)
  | [] => some []
  | d :: ds => match d.pyS, pySL ds with
    | some p, some ps => some (p :: ps)
    | _, _ => none
end
section
variable (P : Program) (w : World) (h : Heap)
/-- v reads as d; and where d may be shown, v is shown so -/
structure RS (v : Value) (d : PyData) : Prop where
  rd : ∃ as, Reads h v d as
  sh : d.showable = true → d.shown.length ≤ sizeLine → (∃ bs, ReadAtMost h d.depth bs ∧ ReprK P w bs h d.depth v d.shown) ∧ ∀ a, v = .ref a → ∃ T idr, ShowsBy P w h a d T idr
structure RSL (vs : List Value) (ds : List PyData) : Prop where
  rd : ∃ as, ReadsAll h vs ds as
  sh : PyData.showableAll ds = true → (∀ t ∈ PyData.shownAll ds, t.length ≤ sizeLine) → ∃ bs, ReadAtMost h (PyData.depthAll ds) bs ∧ ReprAllK P w bs h (PyData.depthAll ds) vs (PyData.shownAll ds)
end
section
variable {P : Program} {w : World} {h : Heap}
theorem RS.plain {v : Value} {d : PyData} {as : List Addr} (r : Reads h v d as) (hd : d.hasDict = false) : RS P w h v d :=
  ⟨⟨as, r⟩, fun hs hz => ⟨ReprK.of_reads r hs (PyData.noDict_hsm hd) hz, fun a e => by subst e; exact showsBy_of_reads r hs (PyData.noDict_hsm hd) hz⟩⟩
theorem RSL.nil : RSL P w h [] [] := ⟨⟨_, .nil⟩, fun _ _ => ⟨[], (fun _ z => nomatch z), by simp only [PyData.shownAll]; exact .nil⟩⟩
theorem RSL.cons {v : Value} {d : PyData} {vs : List Value} {ds : List PyData} (x : RS P w h v d) (y : RSL P w h vs ds) : RSL P w h (v :: vs) (d :: ds) := by
  obtain ⟨as, r1⟩ := x.rd
  obtain ⟨bs, r2⟩ := y.rd
  refine ⟨⟨_, .cons r1 r2⟩, fun hs hz => ?_⟩
  have hs' : d.showable = true ∧ PyData.showableAll ds = true := by simpa [PyData.showableAll] using hs
  obtain ⟨⟨b1, m1, k1⟩, _⟩ := x.sh hs'.1 (hz _ (by simp [PyData.shownAll]))
  obtain ⟨b2, m2, k2⟩ := y.sh hs'.2 fun t ht => hz t (by simp [PyData.shownAll, ht])
  have le1 : d.depth ≤ PyData.depthAll (d :: ds) := by simp only [PyData.depthAll]; exact Nat.le_max_left _ _
  have le2 : PyData.depthAll ds ≤ PyData.depthAll (d :: ds) := by simp only [PyData.depthAll]; exact Nat.le_max_right _ _
  refine ⟨b1 ++ b2, (m1.mono le1).append (m2.mono le2), ?_⟩
  have := ReprAllK.cons ((k1.more (as' := b1 ++ b2) fun b hb => List.mem_append_left _ hb).level_le le1) (k2.more_le (as' := b1 ++ b2) (fun b hb => List.mem_append_right _ hb) le2)
  simpa only [PyData.shownAll] using this
theorem RS.tup {a : Addr} {o : Obj} {vs : Array Value} {n : Nat} {ds : List PyData} (h1 : h.get? a = some o) (h2 : o.cls = .type "tuple") (h3 : o.data = .seq vs n) (y : RSL P w h vs.toList ds) : RS P w h (.ref a) (.tuple ds) := by
  obtain ⟨as, r⟩ := y.rd
  have rt : Reads h (.ref a) (.tuple ds) as := .tuple h1 h2 h3 r
  refine ⟨⟨_, rt⟩, fun hs hz => ?_⟩
  have hz' : (tupleText (PyData.shownAll ds)).length ≤ sizeLine := by simpa only [PyData.shown] using hz
  obtain ⟨bs, hb, hk⟩ := y.sh (by simpa [PyData.showable] using hs) fun t ht => Nat.le_trans (tupleText_mem_le ht) hz'
  have na : a ∉ bs := not_mem_of_deeper rt (by simp only [PyData.depth]; omega) hb
  refine ⟨⟨a :: bs, ReadAtMost.cons rt (by simp only [PyData.depth]; omega) hb, ?_⟩, fun a' e => ?_⟩
  · simp only [PyData.depth, PyData.shown]
    exact ReprK.tuple h1 h2 h3 na hk
  · cases e
    refine ⟨_, _, PySem.F.slot_tuple_repr, PySem.F.slot_tuple_str, PySem.F.slot_tuple_format, fun s k0 => ⟨o, k0 _ _ h1, h2⟩, fun A E s Q hg hu k0 hQ => ?_⟩
    simp only [PyData.depth] at hu
    simp only [PyData.shown] at hQ
    exact call_tuple_reprK h1 h2 h3 na hk hg (fun b _ => Clear.nil b) hu k0 hQ hz'
theorem RS.lst {a : Addr} {o : Obj} {vs : Array Value} {n : Nat} {ds : List PyData} (h1 : h.get? a = some o) (h2 : o.cls = .type "list") (h3 : o.data = .seq vs n) (y : RSL P w h vs.toList ds) : RS P w h (.ref a) (.list ds) := by
  obtain ⟨l⟩ := vs
  cases l with
  | nil =>
    have e : ds = [] := by
      obtain ⟨as, r⟩ := y.rd
      cases r; rfl
    subst e
    exact RS.plain (.list h1 h2 h3 .nil) (by simp [PyData.hasDict, PyData.hasDictAll])
  | cons x l =>
    obtain ⟨as, r⟩ := y.rd
    have rt : Reads h (.ref a) (.list ds) (a :: as) := .list h1 h2 h3 r
    refine ⟨⟨_, rt⟩, fun hs hz => ?_⟩
    have hz' : (listText (PyData.shownAll ds)).length ≤ sizeLine := by simpa only [PyData.shown] using hz
    obtain ⟨bs, hb, hk⟩ := y.sh (by simpa [PyData.showable] using hs) fun t ht => Nat.le_trans (listText_mem_le ht) hz'
    have na : a ∉ bs := not_mem_of_deeper rt (by simp only [PyData.depth]; omega) hb
    refine ⟨⟨a :: bs, ReadAtMost.cons rt (by simp only [PyData.depth]; omega) hb, ?_⟩, fun a' e => ?_⟩
    · simp only [PyData.depth, PyData.shown]
      exact ReprK.list h1 h2 h3 na (by simpa using hk.length_eq) fun i y e => hk.item i y (by simpa using e)
    · cases e
      refine ⟨_, _, PySem.F.slot_list_repr.toG, PySem.F.slot_list_str, PySem.F.slot_list_format, fun s k0 => ⟨o, k0 _ _ h1, h2⟩, fun A E s Q hg hu k0 hQ => ?_⟩
      simp only [PyData.depth] at hu
      simp only [PyData.shown] at hQ
      exact call_list_reprK h1 h2 h3 na (by simpa using hk.length_eq) (fun i y e => hk.item i y (by simpa using e)) hg (fun b _ => Clear.nil b) hu k0 hQ hz'
theorem RS.dct {a : Addr} {o : Obj} {es : Array DictEntry} {n : Nat} {kvs : List (PyData × PyData)} (h1 : h.get? a = some o) (h2 : o.cls = .type "dict") (h3 : o.data = .dict es n) (hsys : (a == sysModules) = false) (x : RSL P w h (es.toList.map (·.key)) (kvs.map (·.1))) (y : RSL P w h (es.toList.map (·.val)) (kvs.map (·.2))) : RS P w h (.ref a) (.dict kvs) := by
  obtain ⟨as, r1⟩ := x.rd
  obtain ⟨bs, r2⟩ := y.rd
  have rt : Reads h (.ref a) (.dict kvs) (a :: as ++ bs) := .dict h1 h2 h3 r1 r2
  refine ⟨⟨_, rt⟩, fun hs hz => ?_⟩
  have hz' : (dictText (PyData.shownKv kvs)).length ≤ sizeLine := by simpa only [PyData.shown] using hz
  obtain ⟨hs1, hs2⟩ := PyData.showableKv_split kvs (by simpa [PyData.showable] using hs)
  obtain ⟨b1, m1, k1⟩ := x.sh hs1 fun t ht => let ⟨p, hp, hl⟩ := PyData.shownKv_key_le kvs t ht; Nat.le_trans hl (Nat.le_trans (dictText_mem_le hp) hz')
  obtain ⟨b2, m2, k2⟩ := y.sh hs2 fun t ht => let ⟨p, hp, hl⟩ := PyData.shownKv_val_le kvs t ht; Nat.le_trans hl (Nat.le_trans (dictText_mem_le hp) hz')
  have hb : ReadAtMost h (PyData.depthKv kvs) (b1 ++ b2) := (m1.mono (PyData.depthAll_keys_le kvs)).append (m2.mono (PyData.depthAll_vals_le kvs))
  have na : a ∉ b1 ++ b2 := not_mem_of_deeper rt (by simp only [PyData.depth]; omega) hb
  have two := ReprEntriesK.of_two (prog := P) (w := w) (h₀ := h) es.toList _ _ (k1.more_le (as' := b1 ++ b2) (fun b hb => List.mem_append_left _ hb) (PyData.depthAll_keys_le kvs)) (k2.more_le (as' := b1 ++ b2) (fun b hb => List.mem_append_right _ hb) (PyData.depthAll_vals_le kvs))
  refine ⟨⟨a :: (b1 ++ b2), ReadAtMost.cons rt (by simp only [PyData.depth]; omega) hb, ?_⟩, fun a' e => ?_⟩
  · simp only [PyData.depth, PyData.shown, PyData.shownKv_eq]
    exact ReprK.dict h1 h2 h3 hsys na two
  · cases e
    refine ⟨_, _, PySem.F.slot_dict_repr, PySem.F.slot_dict_str, PySem.F.slot_dict_format, fun s k0 => ⟨o, k0 _ _ h1, h2⟩, fun A E s Q hg hu k0 hQ => ?_⟩
    simp only [PyData.depth] at hu
    simp only [PyData.shown, PyData.shownKv_eq] at hQ
    exact call_dict_reprK h1 h2 h3 hsys na two hg (fun b _ => Clear.nil b) hu k0 hQ (by rw [← PyData.shownKv_eq]; exact hz')
end
section
variable {X : Cx} {pins : List (Addr × Obj)} {σ : L2.St} {H Hk : Hp} {s : Shared} {mg : Str → Option Value}
theorem pySL_len : ∀ {ds : List D} {ps : List PyData}, pySL ds = some ps → ps.length = ds.length
  | [], _, h => by cases h; rfl
  | d :: ds, _, h => by
    simp only [pySL] at h
    cases h1 : d.pyS with
    | none => rw [h1] at h; simp at h
    | some p =>
      cases h2 : pySL ds with
      | none => rw [h1, h2] at h; simp at h
      | some qs =>
        rw [h1, h2] at h
        cases h
        simp [pySL_len h2]
theorem keys_rs {h : Heap} : ∀ {es : List DictEntry} {vs : List (Key × Value)}, Pairs (mixKind X.prog X.w) es vs → RSL X.prog X.w h (es.map (·.key)) ((vs.map (·.1)).map keyPy) ∧ es.map (·.val) = vs.map (·.2)
  | _, _, .nil => ⟨RSL.nil, rfl⟩
  | _, _, .cons (e := e) (kv := kv) hk hv t => by
    obtain ⟨r, e2⟩ := keys_rs (h := h) t
    refine ⟨?_, by rw [List.map_cons, List.map_cons, hv, e2]⟩
    rw [List.map_cons, List.map_cons, List.map_cons]
    refine RSL.cons ?_ r
    rcases keyIs_shape hk with ⟨i, t, e1, e3⟩ | ⟨x, t, e1, e3⟩
    · rw [e1, e3]; exact RS.plain (.int i t) rfl
    · rw [e1, e3]; exact RS.plain (.str x t) rfl
theorem zip_fst {ks : List Key} {ps : List PyData} (h : ps.length = ks.length) : ((ks.map keyPy).zip ps).map (·.1) = ks.map keyPy := by
  rw [List.map_fst_zip]; simp [h]
theorem zip_snd {ks : List Key} {ps : List PyData} (h : ps.length = ks.length) : ((ks.map keyPy).zip ps).map (·.2) = ps := by
  rw [List.map_snd_zip]; simp [h]
theorem vals_kv : ∀ {kvs : List (Key × V)} {vs : List (Key × Value)}, KV kvs vs → Vals (kvs.map (·.2)) (vs.map (·.2))
  | _, _, .nil => .nil
  | _, _, .cons h t => .cons h.2 (vals_kv t)
theorem dct_rs (I : Inv X pins σ H s) {a : Addr} {kvs : List (Key × V)} {ps : List PyData} (e : H a = some (.dK kvs)) (hl : ps.length = kvs.length) (h : ∀ us, Vals (kvs.map (·.2)) us → RSL X.prog X.w s.heap us ps) : RS X.prog X.w s.heap (.ref a) (.dict (((kvs.map (·.1)).map keyPy).zip ps)) := by
  obtain ⟨_, hd, vs, rel, o, es, ep, h1, h2, h3, _, hp, _⟩ := dk_of I.hok e
  obtain ⟨k1, k2⟩ := keys_rs (X := X) (h := s.heap) hp
  refine RS.dct h1 h2.1 h3 hd ?_ ?_
  · rw [zip_fst (by simp [hl]), rel.keys]; exact k1
  · rw [zip_snd (by simp [hl]), k2]
    exact h _ (vals_kv rel)
mutual
theorem Rep.rs (I : Inv X pins σ H s) (e : Ex Hk H) : ∀ {d : D} {v : V} {p : PyData} {u : Value}, Rep X.K mg Hk v d → d.pyS = some p → RelV v u → RS X.prog X.w s.heap u p
  | .non, _, _, _, .non, q, r => by cases q; cases r; exact RS.plain .none rfl
  | .bl _, _, _, _, .bl b, q, r => by cases q; cases r; exact RS.plain (.bool b) rfl
  | .int _, _, _, _, .int b, q, r => by cases q; obtain ⟨t, rfl⟩ := r; exact RS.plain (.int b t) rfl
  | .str _, _, _, _, .str b, q, r => by cases q; obtain ⟨t, rfl⟩ := r; exact RS.plain (.str b t) rfl
  | .tup ds, _, p, _, .tup h rl, q, r => by
    simp only [D.pyS, Option.map_eq_some_iff] at q
    obtain ⟨ps, q, rfl⟩ := q
    cases r
    obtain ⟨its, rv, ⟨o, ho, hc, n, hd⟩, _⟩ := I.tuple (sqT_up e h)
    exact RS.tup ho hc hd (RepL.rs I e rl q rv)
  | .lst ds, _, p, _, .lst h rl, q, r => by
    simp only [D.pyS, Option.map_eq_some_iff] at q
    obtain ⟨ps, q, rfl⟩ := q
    cases r
    obtain ⟨its, rv, ⟨o, n, ho, hc, _, hd⟩, _⟩ := I.list (SqL.of (e _ _ h))
    exact RS.lst ho hc hd (RepL.rs I e rl q rv)
  | .scr _, _, _, _, .scr _, q, _ => by cases q
  | .obj _ _ _, _, _, _, .obj _ _ _ _, q, _ => by cases q
  | .fn _, _, _, _, .fn _, q, _ => by cases q
  | .adr _, _, _, _, .adr, q, _ => by cases q
  | .exc _ _ _ _, _, _, _, .exc _ _, q, _ => by cases q
  | .clo _ _ _ _ _ _, _, _, _, .clo _ _ _, q, _ => by cases q
  | .dct ks ds, _, p, _, .dct (kvs := kvs) h hk rl, q, r => by
    simp only [D.pyS, Option.map_eq_some_iff] at q
    obtain ⟨ps, q, rfl⟩ := q
    cases r
    subst hk
    refine dct_rs I (e _ _ h) ?_ fun us rv => RepL.rs I e rl q rv
    have := rl.len
    rw [pySL_len q, ← this, List.length_map]
theorem RepL.rs (I : Inv X pins σ H s) (e : Ex Hk H) : ∀ {ds : List D} {vs : List V} {ps : List PyData} {us : List Value}, RepL X.K mg Hk vs ds → pySL ds = some ps → Vals vs us → RSL X.prog X.w s.heap us ps
  | [], _, _, _, .nil, q, r => by cases q; cases r; exact RSL.nil
  | d :: ds, _, ps, _, .cons h rl, q, r => by
    simp only [pySL] at q
    cases h1 : d.pyS with
    | none => rw [h1] at q; simp at q
    | some p =>
      cases h2 : pySL ds with
      | none => rw [h1, h2] at q; simp at q
      | some qs =>
        rw [h1, h2] at q
        cases q
        cases r with
        | cons r1 r2 => exact RSL.cons (Rep.rs I e h h1 r1) (RepL.rs I e rl h2 r2)
end
theorem View.rs (I : Inv X pins σ H s) (e : Ex Hk H) {d : D} {v : V} {p : PyData} {u : Value} (h : View X.K mg Hk H v d) (q : d.pyS = some p) (r : RelV v u) : RS X.prog X.w s.heap u p := by
  rcases h with h | ⟨a, rfl, h⟩
  · exact h.rs I e q r
  · cases d <;> simp only [Cont] at h <;> first | exact h.elim | skip
    · obtain ⟨xs, h, rl⟩ := h
      exact Rep.rs (mg := mg) I (fun _ _ z => z) (.lst h (rl.up e)) q r
    · cases q
    · obtain ⟨kvs, h, hk, rl⟩ := h
      exact Rep.rs (mg := mg) I (fun _ _ z => z) (.dct h hk (rl.up e)) q r
end
def rReprS (P : Program) (w : World) (mg : Str → Option Value) (K : PySem.W.Frag) : List V → Hp → VK → Prop := fun xs H Q => ∃ v d p Hk, xs = [v] ∧ View K mg Hk H v d ∧ Ex Hk H ∧ d.pyS = some p ∧ p.showable = true ∧ p.shown.length ≤ sizeLine ∧ p.depth ≤ 64 ∧ Q (.str p.shown) H
theorem call_reprS {X : Cx} {k : Nat} (xr : XR k X) : CallR X (.builtin "repr") (rReprS X.prog X.w X.mg X.K) := by
  intro pins s σ H xs us Q I r h
  obtain ⟨v, d, p, Hk, rfl, vw, ex, hp, h1, h2, h3, q⟩ := h
  obtain ⟨u, rfl, ru⟩ := vals1 r
  have hu := xr.hu2
  have rs := vw.rs I ex hp ru
  obtain ⟨_, sb⟩ := rs.sh h1 h2
  have obj : ∀ a, u = .ref a → wpAny (model X.prog X.w) X.A (call (.builtin "repr") [.ref a]) (EP X pins σ Q) X.xe s := fun a e => by
    obtain ⟨T, idr, S⟩ := sb a e
    exact call_repr_slot (by omega) (S.typeIs s fun _ _ z => z) S.slotRepr (S.call X.A.in1 _ s _ xr.gd (by show X.A.units + 1 + p.depth < cLine; omega) (fun _ _ z => z) fun h' u tk hk => ⟨_, _, rfl, .str _, H, I.kept hk, ⟨_, rfl⟩, q⟩)
  obtain ⟨as, hr⟩ := rs.rd
  cases hr with
  | none => exact PySem.P.repr_of_none ⟨.str _, H, I.tok _, ⟨_, rfl⟩, by simpa [PyData.shown] using q⟩
  | bool b => exact PySem.P.repr_of_bool ⟨.str _, H, I.tok _, ⟨_, rfl⟩, by simpa [PyData.shown] using q⟩
  | int i t => exact PySem.P.repr_of_int (by simpa [PyData.showable] using h1) ⟨.str _, H, I.tok _, ⟨_, rfl⟩, by simpa [PyData.shown] using q⟩
  | str x t => exact PySem.P.repr_of_str ⟨.str _, H, I.tok _, ⟨_, rfl⟩, by simpa [PyData.shown] using q⟩ (by simpa [PyData.shown] using h2)
  | list a1 a2 a3 a4 => exact obj _ rfl
  | tuple a1 a2 a3 a4 => exact obj _ rfl
  | dict a1 a2 a3 a4 a5 => exact obj _ rfl
def dReprS (d : D) : Option R := match d.pyS with
  | some p => if p.showable && decide (p.shown.length ≤ sizeLine) && decide (p.depth ≤ 64) then some (.cl (.str p.shown)) else none
  | none => none
theorem fv_reprS {X : Cx} {k : Nat} (xr : XR k X) : FnV X (.builtin "repr") dReprS := by
  intro B ρ τ σ H Q v d r e ⟨Hk, w, hI, vw⟩ q
  unfold dReprS at e
  cases hp : d.pyS with
  | none => rw [hp] at e; cases e
  | some p =>
    rw [hp] at e
    simp only at e
    split at e
    · rename_i hz
      cases e
      simp only [Bool.and_eq_true, decide_eq_true_eq] at hz
      obtain ⟨⟨z1, z2⟩, z3⟩ := hz
      exact ⟨_, call_reprS xr, v, d, p, Hk, rfl, vw, hI.e1, hp, z1, z2, z3, q _ _ ⟨Hk, w, hI.push (.str _)⟩⟩
    · cases e
/-! ### {} -/
theorem tr_dct0 {X : Cx} {W : WX} {pos : Pos} : TrE X W (.Dict [] [] pos) (pure (.fr (.dct [] []))) := by
  intro B ρ τ σ H Q ⟨Hk, w, hI⟩ q
  exact ⟨tDNewK, pe_dnewK, fun p hp => q _ _ ⟨_, _, hI.laidO hp ⟨[], upd_same, rfl, .nil⟩⟩⟩
end Vy
namespace Vy
open PySem PySem.Spec PyProof.Rows L2
open Evl (Ex)
/-- a call that is never made -/
theorem cal_er {P : Program} {w : World} {K : PySem.W.Frag} {mg : Str → Option Value} {base : Heap} {x : Str} {st : Stmt} {f : Addr} {fd : FuncData} {ps : List Str} {k : Nat} (F : Fun K x x st f fd) (hm : mg x = some (.ref f))
    (hbind : ∀ (kV doc pm : Value) (an : Option Addr) (cdv ct : Value) (us : List Value), us.length = ps.length → bindArgs (PySem.W.fnOf x x (defArgs st) (defBody st) (defScope st) .none kV doc pm an cdv ct) ⟨us, []⟩ = pure (ps.zip us)) : Cal P w K mg base x ps.length k fun _ => .er :=
  ⟨f, fd, ps, hm, F.kp, F.binds hbind, ⟨fun vs H Q E h => by obtain ⟨_, _, _, h, _⟩ := h; exact h, fun A outer s H args us vs Q E _ _ _ _ _ h => by
    obtain ⟨_, _, _, _, _, _, z⟩ := h
    exact z.elim⟩⟩
theorem relab {env : Env} {x : Str} : ∀ {names : List (Str × NameKind)}, (names.lookup x = some .cell ∨ names.lookup x = some .free) →
    ((names.map fun (n, k) => if (k == NameKind.free && env.scope.kind == .function && env.kindOf n == some .cell) then (n, NameKind.cell) else (n, k)).lookup x = some .cell ∨ (names.map fun (n, k) => if (k == NameKind.free && env.scope.kind == .function && env.kindOf n == some .cell) then (n, NameKind.cell) else (n, k)).lookup x = some .free)
  | [], h => by simp at h
  | (n, k) :: r, h => by
    have ih := relab (env := env) (x := x) (names := r)
    rw [List.map_cons]
    by_cases e : x = n
    · subst e
      simp only [List.lookup_cons, beq_self_eq_true] at h
      show List.lookup x ((if (k == NameKind.free && env.scope.kind == .function && env.kindOf x == some .cell) = true then (x, NameKind.cell) else (x, k)) :: _) = _ ∨ List.lookup x ((if (k == NameKind.free && env.scope.kind == .function && env.kindOf x == some .cell) = true then (x, NameKind.cell) else (x, k)) :: _) = _
      split
      · exact .inl (by simp [List.lookup_cons])
      · rcases h with h | h <;> cases h
        · exact .inl (by simp [List.lookup_cons])
        · exact .inr (by simp [List.lookup_cons])
    · have ne : (x == n) = false := beq_eq_false_iff_ne.mpr e
      simp only [List.lookup_cons, ne] at h
      show List.lookup x ((if (k == NameKind.free && env.scope.kind == .function && env.kindOf n == some .cell) = true then (n, NameKind.cell) else (n, k)) :: _) = _ ∨ List.lookup x ((if (k == NameKind.free && env.scope.kind == .function && env.kindOf n == some .cell) = true then (n, NameKind.cell) else (n, k)) :: _) = _
      split <;> simp only [List.lookup_cons, ne] <;> exact ih h
theorem blk2 {X : Cx} {scope sc2 : Scope} {s : Shared} {H : Hp} {C : Addr} {cl : List (Str × Addr)} {fp : List Addr} {N : List Str} {own : List (Str × Nat)} (hN : X.N = N) (h : BlkOk N scope sc2 own) : BlkOk (Bk X scope s H C cl fp).N (Bk X scope s H C cl fp).env.scope sc2 own := by
  subst hN
  exact ⟨h.kind, h.uniq, h.ix, fun y hy e => relab (h.free y hy e), h.own⟩
end Vy
namespace Vy
open PySem PySem.Spec PyProof.Rows L2
open Evl (Ex)
/-! ### x[::-1], of a list or a tuple -/
section
variable {P : Program} {w : World} {A : Around} {E : Value → Shared → Prop} {s : Shared}
theorem rev_applied {sl : Addr} {vl vu vs : Value} {n : Nat} {Q : Int × Int × Nat → Shared → Prop} (hs : s.heap.IsSliceOf sl vl vu vs) (pl : IsPart vl none) (pu : IsPart vu none) (ps : IsPart vs (some (-1)))
    (h : Q ((n : Int) - 1, -1, n) s) : wpAny (model P w) A (Builtin.Slice.sliceApplied (.ref sl) (pure (n : Int))) Q E s := by
  obtain ⟨os, hos, hcs, hds⟩ := id hs
  unfold Builtin.Slice.sliceApplied Builtin.Slice.sliceFields
  refine wpAny_bind (wpAny_bind (wpAny_field hos hds (x := vl) rfl (wpAny_bind (wpAny_field hos hds (x := vu) rfl (wpAny_bind (wpAny_field hos hds (x := vs) rfl (wpAny_pure ?_)))))))
  refine wpAny_bind (HT.slicePart_ ps ?_)
  show wpAny _ _ (if ((-1 : Int) == 0) = true then _ else _) _ _ s
  rw [if_neg (by decide)]
  refine wpAny_bind (HT.slicePart_ pl (wpAny_bind (HT.slicePart_ pu (wpAny_bind (wpAny_pure ?_)))))
  have e1 : Builtin.Slice.sliceAdjust none none (-1) (n : Int) = ((n : Int) - 1, -1) := by
    unfold Builtin.Slice.sliceAdjust
    simp
  have e2 : Builtin.Slice.slicePlaces ((n : Int) - 1) (-1) (-1) = n := by
    unfold Builtin.Slice.slicePlaces
    rw [if_neg (by decide)]
    have e : -(-1 : Int) = 1 := by decide
    rw [e, Int.ediv_one]
    split <;> omega
  show wpAny _ _ (match Builtin.Slice.sliceAdjust none none (-1) (n : Int) with | (lo, hi) => pure (lo, (-1 : Int), Builtin.Slice.slicePlaces lo hi (-1))) _ _ s
  rw [e1]
  show wpAny _ _ (pure ((n : Int) - 1, (-1 : Int), Builtin.Slice.slicePlaces ((n : Int) - 1) (-1) (-1))) _ _ s
  rw [e2]
  exact wpAny_pure h
theorem fm_congr {α β : Type} {f g : α → Option β} : ∀ {l : List α}, (∀ m ∈ l, f m = g m) → l.filterMap f = l.filterMap g
  | [], _ => rfl
  | x :: l, h => by rw [List.filterMap_cons, List.filterMap_cons, h x List.mem_cons_self, fm_congr fun m hm => h m (List.mem_cons_of_mem _ hm)]
theorem pick_rev (xs : Array Value) : ((List.range xs.size).filterMap fun (m : Nat) => xs[((xs.size : Int) - 1 + (m : Int) * (-1)).toNat]?).toArray = xs.toList.reverse.toArray := by
  congr 1
  have e : (List.range xs.size).filterMap (fun (m : Nat) => xs[((xs.size : Int) - 1 + (m : Int) * (-1)).toNat]?) = (List.range xs.size).filterMap (fun m => xs.toList.reverse[m]?) := by
    refine fm_congr fun m hm => ?_
    have hm : m < xs.size := List.mem_range.mp hm
    have e1 : ((xs.size : Int) - 1 + (m : Int) * (-1)).toNat = xs.size - 1 - m := by omega
    rw [e1, List.getElem?_reverse (by rw [Array.length_toList]; exact hm), Array.length_toList, ← Array.getElem?_toList]
  rw [e]
  have g : ∀ l : List Value, (List.range l.length).filterMap (fun m => l[m]?) = l := fun l => by
    induction l with
    | nil => rfl
    | cons x l ih =>
      rw [List.length_cons, List.range_succ_eq_map, List.filterMap_cons]
      simp only [List.getElem?_cons_zero]
      rw [List.filterMap_map]
      congr 1
  have := g xs.toList.reverse
  rw [List.length_reverse, Array.length_toList] at this
  exact this
theorem getItem_tuple_rev {t sl : Addr} {items : Array Value} {vl vu vs : Value} {Q : Value → Shared → Prop} (ht : IsTup s.heap t items) (hs : s.heap.IsSliceOf sl vl vu vs) (pl : IsPart vl none) (pu : IsPart vu none) (ps : IsPart vs (some (-1)))
    (h : Q (.ref s.heap.objs.size) { s with heap := s.heap.push { cls := .type "tuple", data := .seq items.toList.reverse.toArray } }) (hsz : items.size ≤ sizeLine) : wpAny (model P w) A (getItem (.ref t) (.ref sl)) Q E s := by
  have htake : sizeOk (.seq items.toList.reverse.toArray) := by
    show items.toList.reverse.toArray.size ≤ sizeLine
    simpa using hsz
  obtain ⟨os, hos, hcs, hds⟩ := id hs
  have hTs : s.TypeIs (.ref sl) "slice" := ⟨os, hos, hcs⟩
  unfold getItem
  try with_reducible refine wpAny_holding ?_
  first | refine wpAny_bind (wpAny_pure ?_) | skip
  refine wpAny_bind (wpAny_sequenceKey ht.typeIs (by decide) ?_)
  refine wpAny_bind (wpAny_callSpecial?_slot (name := Str.ofString "__getitem__") ht.typeIs PyProof.Rows.slot_tuple_getitem
    (wpAny_call_entry PyProof.Rows.slot_tuple_getitem ht.typeIs entry_tuple_getitem ?_ (args_tuple_getitem _ _)))
  show wpAny _ _ (Builtin.Tuple.tupleItemsOf (.ref t) >>= _) _ _ s
  refine wpAny_bind (tupleItemsOf_ ht ?_)
  refine wpAny_bind (wpAny_typeOf hTs ?_)
  rw [if_pos (by decide)]
  refine wpAny_bind (rev_applied hs pl pu ps ?_)
  have hno : ¬ ((((items.size : Int) - 1) == 0 && (-1 : Int) == 1 && items.size == items.size) = true) := by simp
  show wpAny _ _ (if (((items.size : Int) - 1) == 0 && (-1 : Int) == 1 && items.size == items.size) = true then _ else _) _ _ s
  rw [if_neg hno, pick_rev]
  first
    | exact wpAny_bind (m := Builtin.Tuple.tupleExact _) (wpAny_newObj_type (wpAny_pure ⟨_, rfl, wpAny_pure h⟩) htake)
    | exact wpAny_bind (m := Builtin.Tuple.tupleExact _) (wpAny_newObj_type (wpAny_bind (wpAny_pure (wpAny_pure ⟨_, rfl, wpAny_pure h⟩))) htake)
    | exact wpAny_bind (wpAny_bind (m := Builtin.Tuple.tupleExact _) (wpAny_newObj_type (wpAny_pure (wpAny_pure ⟨_, rfl, wpAny_pure h⟩)) htake))
    | exact wpAny_bind (wpAny_bind (m := Builtin.Tuple.tupleExact _) (wpAny_newObj_type (wpAny_pure ⟨_, rfl, wpAny_pure h⟩) htake))
end
section
variable {X : Cx} {W : WX}
def tRevT (K : PySem.W.Frag) (te : TE) : TE := fun σ H Q => te σ H fun x H1 => ∃ a xs, x = .ref a ∧ SqT K H1 a xs ∧ ∀ p, H1 p = none → Q (.ref p) (upd H1 p (.tup xs.reverse))
theorem pe_revT {e : Expr} {te : TE} {k : Nat} {p1 p2 p3 pos : Pos} (he : PE X e te) : PE X (.Subscript e (.Slice none none (some (.UnaryOp .USub (.Constant (.int 1) k p1) p2)) p3) pos) (tRevT X.K te) := by
  refine ⟨fun pins s σ H Q I h => ?_⟩
  refine Subscript_ (thn (he.run pins s σ H _ I h) fun v s1 ⟨x, H1, I1, r1, q1⟩ => ?_)
  obtain ⟨a, xs, ex, hx, q⟩ := q1
  subst ex
  cases r1
  have hst : PO X (some (.UnaryOp .USub (.Constant (.int 1) k p1) p2)) (tPart (tUn (rU fun i => .int (-i)) (tC (.int 1)))) := po_some (pe_un un_neg pe_int)
  refine wpAny_Slice (thn (po_none.run pins s1 σ H1 (fun o H2 => o = none ∧ H2 = H1) I1 ⟨rfl, rfl⟩) fun vl s2 ⟨l, H2, I2, pl, el, e2⟩ => ?_)
  subst el e2
  refine thn (po_none.run pins s2 σ H2 (fun o H3 => o = none ∧ H3 = H2) I2 ⟨rfl, rfl⟩) fun vu s3 ⟨u, H3, I3, pu, eu, e3⟩ => ?_
  subst eu e3
  refine thn (hst.run pins s3 σ H3 (fun o H4 => o = some (-1) ∧ H4 = H3) I3 ⟨1, rfl, -1, rfl, rfl, rfl⟩) fun vs s4 ⟨o, H4, I4, ps, eo, e4⟩ => ?_
  subst eo e4
  have I5 : Inv X pins σ H4 { s4 with heap := s4.heap.push { cls := .type "slice", data := .fields #[vl, vu, vs] } } := I4.kept (t' := s4.toks) fun b ob q => Heap.get?_push_of_some _ q
  obtain ⟨its, r, ht, hz⟩ := I5.tuple hx
  have hlen := r.length
  show wpAny (model X.prog X.w) X.A (subscriptTail e (.Slice none none (some (.UnaryOp .USub (.Constant (.int 1) k p1) p2)) p3) (.ref a) (.ref s4.heap.objs.size)) (EP X pins σ Q) X.xe { s4 with heap := s4.heap.push { cls := .type "slice", data := .fields #[vl, vu, vs] } }
  refine tail_any (ops := [.ref a, .ref s4.heap.objs.size]) ht.typeIs (PyProof.Rows.slot_tuple_getitem.lookup) ?_ (by with_unfolding_all rfl)
  refine getItem_tuple_rev ht (Heap.IsSliceOf.new _ vl vu vs) pl pu ps ?_ (by rw [List.size_toArray]; omega)
  refine ⟨.ref _, _, I5.laid (t' := s4.toks) (o := .tup xs.reverse) (fun b ob q => Heap.get?_push_of_some _ q) (Nat.le_refl _) ?_, rfl, q _ (I5.hok.fresh (Nat.le_refl _))⟩
  exact ⟨by rw [List.length_reverse]; exact hz, _, r.reverse, IsTup.new _ _⟩
def dRv : D → Option R
  | .lst ds => some (.fr (.lst ds.reverse))
  | .tup ds => some (.cl (.tup ds.reverse))
  | _ => none
theorem tr_rv {e : Expr} {mv : M D} {pos : Pos} {kI : Nat} {q1 q2 q3 : Pos} (h : TrV X W e mv) : TrE X W (.Subscript e (.Slice none none (some (.UnaryOp .USub (.Constant (.int 1) kI q1) q2)) q3) pos) (mRd dRv mv) := by
  intro B ρ τ σ H Q hs q
  have q0 : PostE X.K X.mg B W τ σ Q ((mv ρ).then fun d => M.opt (dRv d)) := q
  cases h1 : mv ρ with
  | er => rw [h1] at q0; exact q0.elim
  | ex c ns ds ρ' =>
    rw [h1] at q0
    exact ⟨tRevL X.K (AnyE X e), pe_revL pe_any, h B ρ τ σ H _ hs (by rw [h1]; exact q0)⟩
  | ok d ρ1 =>
    rw [h1] at q0
    obtain ⟨r, er, kq⟩ := post_opt q0
    cases d <;> simp only [dRv, reduceCtorEq, Option.some.injEq] at er <;> subst er
    · refine ⟨tRevT X.K (AnyE X e), pe_revT pe_any, h B ρ τ σ H _ hs ?_⟩
      rw [h1]
      rintro v H1 ⟨Hk, w, hI, vw⟩
      obtain ⟨a, xs, rfl, hx, ra⟩ := vw.tup hI.e1
      refine ⟨a, xs, rfl, hx, fun p hp => ?_⟩
      have ek : Ex Hk (upd Hk p (.tup xs.reverse)) := Ex.new (Evl.fresh_back hI.e1 hp)
      exact kq _ _ ⟨_, w, (hI.laidK hp).push (.tup (.inl (.inl upd_same)) (ra.rev.up ek))⟩
    · refine ⟨tRevL X.K (AnyE X e), pe_revL pe_any, h B ρ τ σ H _ hs ?_⟩
      rw [h1]
      rintro v H1 ⟨Hk, w, hI, vw⟩
      obtain ⟨a, xs, rfl, hx, ra⟩ := vw.lst hI.e1
      exact ⟨a, xs, rfl, SqL.of hx, fun p hp => kq _ _ ⟨_, _, hI.laidO hp ⟨_, upd_same, ra.rev⟩⟩⟩
end
end Vy
namespace Vy
open PySem PySem.Spec PyProof.Rows L2
open Evl (Ex)
/-! ### exceptions raised -/
abbrev veAll : List Value := [.type "ValueError", .type "Exception", .type "BaseException", .type "object"]
/-- an own exception class without own start -/
def XPl (K : PySem.W.Frag) (mg : Str → Option Value) (c : Str) : Prop := ∃ C : Addr, mg c = some (.ref C) ∧ PySem.W.keepIn K (.ref C) = true ∧ PySem.W.subIn K (.ref C) (.type "BaseException") = some true ∧ PySem.W.typeIn K (.ref C) = some (.type "type") ∧ PySem.W.excIn K C veAll "ValueError.__new__" = true
def mRaise (c : Str) : M Fl := fun ρ => .ex c [] [] ρ
section
variable {X : Cx} {W : WX} {c n : Str} {e : Expr} {m : M R} {p p2 pos : Pos}
theorem pmk0 {C : Addr} {bmB : List Value} {B newId initId : String} (F : ExcBaseFacts B newId initId bmB) (q : PySem.W.excIn X.K C bmB newId = true) (gC : X.mg c = some (.ref C)) (kC : PySem.W.keepIn X.K (.ref C) = true) (r : Raises X (.ref C)) (hg : Gl X c)
    (hdb : (c == ("__debug__" : Str)) = false) : PMk X (.Call (.Name c p) [] [] pos) (fun _ H Q => Q (.ref C) none H) := by
  intro pins s σ H Q I h
  refine wpAny_Call_Name_kw (ld_glob I hg gC ?_ hdb)
  refine PySem.W.callWith_K0 I.kIn kC ?_
  show wpAny _ _ (call (.ref C) []) _ _ _
  obtain ⟨bm, N, nm, qn, bs, hdct, sn, sub, ab, col, dd, k0, k1, k2, k3, k5, mN, hC, hN, hni, T⟩ := exc_obj I.kIn q
  refine wpAny_call_exc_subT F T hC hN hni (fun h' e hm => ?_) (by show 0 ≤ sizeLine; exact Nat.zero_le _)
  exact mk_of I hm r h (I.hok.gone hm.new)
theorem trs_raise (x : XPl X.K X.mg c) (hc : X.calm = true) (tk : Takes X W) (hg : Gl X c := by rfl) (hdb : (c == ("__debug__" : Str)) = false := by decide) : TrS X W (.Raise (some (.Call (.Name c p) [] [] p2)) none pos) (mRaise c) := by
  obtain ⟨C, h1, h2, h3, h4, h5⟩ := x
  intro B ρ τ σ H D ⟨Hk, w, h⟩ q
  refine ⟨_, ps_raise hc tk (pmk0 PySem.F.excBase_ValueError h5 h1 h2 (raises_own h3 h4) hg hdb), ?_⟩
  exact q σ C none H ⟨Hk, w, h.clear⟩ ⟨h1, .inl ⟨rfl, rfl, rfl⟩⟩
end
/-! ### .. with a start of its own, that keeps what it is handed -/
def spXi (K : PySem.W.Frag) (C : Addr) (n : Str) : Sp := fun vs H Q _ => ∃ (a : Addr) (v : V), vs = [.ref a, v] ∧ H a = some (exo a C none) ∧ ∀ dx, H dx = none → dx ≠ a → Q .non (upd (upd H dx (exd dx [(n, v)])) a (exo a C (some dx)))
def XIn (P : Program) (w : World) (K : PySem.W.Frag) (mg : Str → Option Value) (base : Heap) (k : Nat) (c n : Str) : Prop := ∃ (C fI : Addr) (fd : FuncData) (ps : List Str), mg c = some (.ref C) ∧ OexC K C ∧ PySem.W.findIn K (.ref C) "__init__" = some (some (.ref fI)) ∧ PySem.W.typeIn K (.ref fI) = some (.type "function") ∧ Binds K fd ps [] ∧ FnOk P w K mg base CX0 k fI fd ps (spXi K C n)
theorem xin_mk {P : Program} {w : World} {K : PySem.W.Frag} {mg : Str → Option Value} {base : Heap} {c n qual : Str} {C fI : Addr} {fd : FuncData} {N ps : List Str} {st : Stmt} (hm : mg c = some (.ref C)) (T : OexC K C) (iC : PySem.W.findIn K (.ref C) "__init__" = some (some (.ref fI))) (tI : PySem.W.typeIn K (.ref fI) = some (.type "function"))
    (hn : PySem.W.findIn K (.ref C) n = some none) (F : Fun K "__init__" qual st fI fd) (S : FnScope N ps (defScope st)) (hp : ps.length = 2)
    (hbind : ∀ (kV doc pm : Value) (an : Option Addr) (cdv ct : Value) (us : List Value), us.length = ps.length → bindArgs (PySem.W.fnOf "__init__" qual (defArgs st) (defBody st) (defScope st) .none kV doc pm an cdv ct) ⟨us, []⟩ = pure (ps.zip us))
    (h0 : ∀ v u : V, start N [v, u] = [some v, some u]) (hb : ∀ cdv A outer s H E, PSs (cxOf CX0 P w K mg base N qual (defScope st) fI cdv A outer s H E).nox (defBody st) (tOst K n (tVar 0) (tVar 1))) : XIn P w K mg base 1 c n := by
  refine ⟨C, fI, fd, ps, hm, T, iC, tI, F.binds hbind, F.ok S (fun vs H Q E h => ?_) fun cdv A outer s H vs Q E hr h => ?_⟩
  · obtain ⟨a, v, rfl, _⟩ := h
    exact hp.symm
  · obtain ⟨a, v, rfl, ha, k⟩ := h
    refine ⟨_, hb cdv A outer s H E, ?_⟩
    rw [h0]
    exact ⟨v, rfl, .ref a, rfl, a, C, rfl, T, hn, .inl ⟨ha, fun dx nd ne => k dx nd ne⟩⟩
def flatD : D → Bool
  | .int _ => true
  | .str _ => true
  | _ => false
def mRaise1 (c n : Str) (m : M R) : M Fl := fun ρ => match m ρ with
  | .ok r ρ' => if flatD r.d then .ex c [n] [r.d] ρ' else .er
  | .ex c' ns ds ρ' => .ex c' ns ds ρ'
  | .er => .er
theorem flat_rep {K : PySem.W.Frag} {mg : Str → Option Value} {H H' : Hp} {v : V} {d : D} (h : flatD d = true) (r : Rep K mg H v d) : Rep K mg H' v d := by
  cases d <;> first | cases h | skip
  · cases r; exact .int _
  · cases r; exact .str _
section
variable {X : Cx} {W : WX} {c n : Str} {e : Expr} {m : M R} {p p2 pos : Pos} {k k' : Nat}
theorem trs_raise1 (x : XIn X.prog X.w X.K X.mg X.base k c n) (xr : XR k' X) (tk : Takes X W) (he : TrE X W e m) (hk : k + 1 ≤ k' := by decide) (hg : Gl X c := by rfl) (hdb : (c == ("__debug__" : Str)) = false := by decide)
    (hse : starEach [e] X.env = (false, eval e X.env) :: starEach [] X.env := by rfl) (hpl : (backTo p2 (starEach [] X.env)).any (·.1) = false := by rfl) : TrS X W (.Raise (some (.Call (.Name c p) [e] [] p2)) none pos) (mRaise1 c n m) := by
  obtain ⟨C, fI, fd, ps, hm, T, iC, tI, hb, F1⟩ := x
  intro B ρ τ σ H D hst q
  refine ⟨_, ps_raise xr.calm tk (pmk_oex (ds := []) (dvs := []) T iC tI F1 (xr.room.mono hk) hb .nil (fun _ _ _ _ _ _ _ h => h.elim) hg hm (pa_cons (pe_any (e := e)) pa_nil hse) hdb hse hpl), ?_⟩
  refine he B ρ τ σ H _ hst ?_
  unfold mRaise1 at q
  cases h1 : m ρ with
  | er => rw [h1] at q; exact q
  | ex c' ns ds ρ' => rw [h1] at q; exact q σ
  | ok r ρ' =>
    rw [h1] at q
    simp only at q
    cases hf : flatD r.d with
    | false => rw [hf] at q; exact q.elim
    | true =>
      rw [hf] at q
      have q : ∀ σ', PostX X.K X.mg B W σ' c [n] [r.d] ρ' := q
      intro v H1 ⟨Hk, w, h⟩
      refine ⟨by simp, fun a ha => ⟨a, v, rfl, upd_same, fun dx nd ne => ⟨rfl, dx, [(n, v)], upd_same, by rw [upd_ne ne, upd_same], ?_, ?_⟩⟩⟩
      · rw [upd_ne ne] at nd; exact nd
      · have nd1 : H1 dx = none := by rw [upd_ne ne] at nd; exact nd
        have e : upd (del (upd (upd (upd H1 a (exo a C none)) dx (exd dx [(n, v)])) a (exo a C (some dx))) a) dx (.xd [(n, v)]) = upd H1 dx (.xd [(n, v)]) := by
          funext b
          by_cases hb : b = dx
          · rw [hb, upd_same, upd_same]
          · rw [upd_ne hb, upd_ne hb]
            by_cases ha2 : b = a
            · rw [ha2, del_same, ha]
            · rw [del_ne ha2, upd_ne ha2, upd_ne hb, upd_ne ha2]
        rw [e]
        have hv : Rep X.K X.mg (fun _ => none) v r.d := by
          obtain ⟨Hk', _, h'⟩ := h.clean
          exact flat_rep hf h'.temps.1
        exact q σ C (some dx) _ ⟨_, w, h.pop.clear.laidK nd1⟩ ⟨hm, .inr ⟨n, r.d, dx, v, rfl, rfl, rfl, upd_same, hv⟩⟩
end
end Vy
namespace Vy
open PySem PySem.Spec PyProof.Rows L2
open Evl (Ex)
/-! ### statements where nothing is pending -/
def TrS0 (X : Cx) (W : WX) (st : Stmt) (m : M Fl) : Prop := ∀ B ρ σ H D, St X.K X.mg B ρ [] σ H → PostS X.K X.mg B W [] D (m ρ) → AnyS X st D σ H
def TrSs0 (X : Cx) (W : WX) (st : List Stmt) (m : M Fl) : Prop := ∀ B ρ σ H D, St X.K X.mg B ρ [] σ H → PostS X.K X.mg B W [] D (m ρ) → AnySs X st D σ H
section
variable {X : Cx} {W : WX} {st : Stmt} {sts : List Stmt} {n n1 n2 : M Fl}
theorem trs0 (h : TrS X W st n) : TrS0 X W st n := fun B ρ σ H D hs q => h B ρ [] σ H D hs q
theorem trs0_one (h : TrS0 X W st n) : TrSs0 X W [st] n := fun B ρ σ H D hs q => ⟨AnyS X st, pss_one ps_any, h B ρ σ H D hs q⟩
theorem trs0_cons (h : TrS0 X W st n1) (k : TrSs0 X W sts n2) : TrSs0 X W (st :: sts) (mSeq n1 n2) := by
  intro B ρ σ H D hs q
  refine ⟨tSeq (AnyS X st) (AnySs X sts), pss_cons ps_any pss_any, h B ρ σ H { D with nx := AnySs X sts D } hs ?_⟩
  have q : PostS X.K X.mg B W [] D ((n1 ρ).then fun f => flow f n2) := q
  cases h1 : n1 ρ with
  | er => rw [h1] at q; exact q
  | ex c ns ds ρ' => rw [h1] at q; exact q
  | ok f ρ1 =>
    rw [h1] at q
    cases f with
    | nx => exact fun σ' H' hs' => k B ρ1 σ' H' D hs' q
    | rt r => exact q
    | bk => exact q
    | ct => exact q
end
section
variable {P : Program} {w : World} {K : PySem.W.Frag} {mg : Str → Option Value} {base : Heap}
theorem fn_body0 {x qual : Str} {st : Stmt} {f : Addr} {fd : FuncData} {N ps : List Str} {k : Nat} {m : M Fl} (F : Fun K x qual st f fd) (S : FnScope N ps (defScope st))
    (hb : ∀ (cdv : Value) (A : Around) (outer : List Env) (s : Shared) (H : Hp) (E : XK), XR k (cxOf (L2.CX P w) P w K mg base N qual (defScope st) f cdv A outer s H E) → PassesOwn (model P w) (A.deeper (envOfC qual (defScope st) s.heap.objs.size f cdv)) (envOfC qual (defScope st) s.heap.objs.size f cdv) (cxOf (L2.CX P w) P w K mg base N qual (defScope st) f cdv A outer s H E).xe →
      Takes (cxOf (L2.CX P w) P w K mg base N qual (defScope st) f cdv A outer s H E) (wOf E) → TrSs0 (cxOf (L2.CX P w) P w K mg base N qual (defScope st) f cdv A outer s H E) (wOf E) (defBody st) m) :
    FnG P w K mg base (k + 1) f fd ps (spD K mg (bodyF N.length m) ps.length) := by
  obtain ⟨oc, od, kV, doc, pm, an, cdv, ct, osl, rfl, lk, hcd⟩ := F.ex
  refine fnG_of lk hcd S (fun vs H Q E h => by obtain ⟨_, _, _, h, _⟩ := h; exact h) fun A outer s H vs Q E hr hgd hsp => ?_
  obtain ⟨B, ρ, w', hn, hH, hI, q⟩ := hsp
  have xr : XR k (cxOf (L2.CX P w) P w K mg base N qual (defScope st) f cdv A outer s H E) := ⟨hr, hgd, rfl, S.nd⟩
  have tk : Takes (cxOf (L2.CX P w) P w K mg base N qual (defScope st) f cdv A outer s H E) (wOf E) := takes_of rfl rfl rfl rfl
  have hlr : ρ.length = vs.length := by simpa using hI.len
  have hst : St K mg B (ρ ++ List.replicate (N.length - vs.length) .no) [] (start N vs) H := ⟨B.Hk0, w', hI.pad (N.length - vs.length)⟩
  refine hb cdv A outer s H E xr (passes_of rfl) tk B (ρ ++ List.replicate (N.length - vs.length) Slot.no) (start N vs) H _ hst ?_
  unfold bodyF at q
  rw [hlr] at q
  show PostS K mg B (wOf E) [] _ (m (ρ ++ List.replicate (N.length - vs.length) .no))
  cases h1 : m (ρ ++ List.replicate (N.length - vs.length) .no) with
  | er => rw [h1] at q; exact q
  | ex c ns ds ρ' => rw [h1] at q; exact fun σ' C d H' hs hx => q C d σ' H' hs hx
  | ok fl ρ' =>
    rw [h1] at q
    cases fl with
    | nx => exact fun σ' H' ⟨Hk, w2, h2⟩ => q .non σ' H' ⟨Hk, w2, h2.push .non⟩
    | rt r => exact fun v σ' H' hs => q v σ' H' hs
    | bk => exact q.elim
    | ct => exact q.elim
theorem cal_mk0 {x : Str} {st : Stmt} {f : Addr} {fd : FuncData} {N ps : List Str} {k : Nat} {m : M Fl} (F : Fun K x x st f fd) (hm : mg x = some (.ref f)) (S : FnScope N ps (defScope st))
    (hbind : ∀ (kV doc pm : Value) (an : Option Addr) (cdv ct : Value) (us : List Value), us.length = ps.length → bindArgs (PySem.W.fnOf x x (defArgs st) (defBody st) (defScope st) .none kV doc pm an cdv ct) ⟨us, []⟩ = pure (ps.zip us))
    (hb : ∀ (cdv : Value) (A : Around) (outer : List Env) (s : Shared) (H : Hp) (E : XK), XR k (cxOf (L2.CX P w) P w K mg base N x (defScope st) f cdv A outer s H E) → PassesOwn (model P w) (A.deeper (envOfC x (defScope st) s.heap.objs.size f cdv)) (envOfC x (defScope st) s.heap.objs.size f cdv) (cxOf (L2.CX P w) P w K mg base N x (defScope st) f cdv A outer s H E).xe →
      Takes (cxOf (L2.CX P w) P w K mg base N x (defScope st) f cdv A outer s H E) (wOf E) → TrSs0 (cxOf (L2.CX P w) P w K mg base N x (defScope st) f cdv A outer s H E) (wOf E) (defBody st) m) : Cal P w K mg base x ps.length (k + 1) (bodyF N.length m) :=
  ⟨f, fd, ps, hm, F.kp, F.binds hbind, fn_body0 F S hb⟩
end
/-! ### a caught exception -/
/-- the data of an exception of these fields -/
def IsX (ns : List Str) (ds : List D) (x : D) : Prop := (ns = [] ∧ ds = [] ∧ ∃ a, x = .adr a) ∨ ∃ n d a dd, ns = [n] ∧ ds = [d] ∧ x = .exc a dd n d
def wipeF (i : Nat) : Res Fl → Res Fl
  | .ok f ρ => .ok f (ρ.set i .no)
  | _ => .er
open Classical in
/-- what is the same for all x -/
noncomputable def same {α β : Type} (p : α → Prop) (f : α → Res β) : Res β := if h : ∃ r, ∀ x, p x → f x = r then Classical.choose h else .er
theorem ev_same {α β : Type} {p : α → Prop} {f : α → Res β} {r : Res β} (x0 : α) (h0 : p x0) (h : ∀ x, p x → f x = r) : same p f = r := by
  have hr : ∃ r, ∀ x, p x → f x = r := ⟨r, h⟩
  unfold same
  rw [dif_pos hr, ← Classical.choose_spec hr x0 h0, h x0 h0]
theorem same_at {α β : Type} {p : α → Prop} {f : α → Res β} (hne : same p f ≠ .er) (x : α) (hx : p x) : f x = same p f := by
  unfold same at hne ⊢
  split
  · rename_i hr
    exact Classical.choose_spec hr x hx
  · rename_i hr
    rw [dif_neg hr] at hne
    exact absurd rfl hne
def mSuite (i : Nat) (ms : D → M Fl) (x : D) : M Fl := M.sto (put i (.cl x)) >>= fun _ => ms x
/-- try: mb, except .. as slot i: ms -/
noncomputable def mTry (i : Nat) (cat : Str → Option Bool) (mb : M Fl) (ms : Str → D → M Fl) : M Fl := fun ρ => match mb ρ with
  | .ex c ns ds ρ' => match cat c with
    | some true => same (IsX ns ds) fun x => wipeF i (mSuite i (ms c) x ρ')
    | some false => .ex c ns ds ρ'
    | none => .er
  | r => r
/-- that the exception of the suite is of the class c, its data x -/
structure XAt (X : Cx) (a : Addr) (cls : Value) (d : Option Addr) (c : Str) (x : D) : Prop where
  cls : ∃ C, cls = .ref C ∧ X.mg c = some (.ref C)
  dat : (d = none ∧ x = .adr a) ∨ ∃ dd n y, d = some dd ∧ x = .exc a dd n y
section
variable {K : PySem.W.Frag} {mg : Str → Option Value} {B : Bs} {Hk H : Hp} {w : Addr → Option Own} {ρ : State} {τ : List (V × R)} {σ : L2.St}
/-- a thing that never changes is known from now on -/
theorem StI.learn {p : Addr} {o : HO} (h : StI K mg B Hk w ρ τ σ H) (ho : H p = some o) (hf : Fz (some o)) : ∃ Hk', Ex Hk Hk' ∧ Hk' p = some o ∧ StI K mg B Hk' w ρ τ σ H := by
  cases hk : Hk p with
  | some u =>
    have := h.e1 p u hk
    rw [ho] at this
    cases this
    exact ⟨Hk, fun _ _ z => z, hk, h⟩
  | none =>
    have ek : Ex Hk (upd Hk p o) := Ex.new hk
    have keep : ∀ q, NT H q → Hk q = none → upd Hk p o q = none ∧ ∀ u, H q = some u → H q = some u := fun q hq hkq => by
      have ne : q ≠ p := fun e => hq.fz (by rw [e, ho]; exact hf)
      exact ⟨by rw [upd_ne ne]; exact hkq, fun _ z => z⟩
    refine ⟨upd Hk p o, ek, upd_same, h.len, h.e0.trans ek, fun a u e => ?_, h.fr, fun a n0 k0 => ?_, h.live, fun i x sl e1 e2 => (h.slots i x sl e1 e2).up ek fun q a b c => ⟨a, keep q b c⟩, h.temps.up ek fun n q _ a b c => ⟨a, keep q b c⟩⟩
    · by_cases ha : a = p
      · subst ha; rw [upd_same] at e; cases e; exact ho
      · rw [upd_ne ha] at e; exact h.e1 a u e
    · by_cases ha : a = p
      · subst ha; exact .inr (by rw [ho]; exact hf)
      · rw [upd_ne ha]; exact h.nk a n0 k0
end
section
variable {X : Cx} {W : WX} {x n : Str} {i : Nat} {body suite : List Stmt} {b₀ : Stmt} {np pos pos' : Pos} {mb : M Fl} {ms : Str → D → M Fl} {cat : Str → Option Bool} {cv : Value}
theorem trs_try (hs : X.stack = X.env :: X.outer) (hf : X.env.frame = some X.env.locals) (xn : X.N.Nodup) (hc : Names X x cv) (tk : Takes X W)
    (hcat : ∀ c b C, cat c = some b → X.mg c = some (.ref C) → PySem.W.exmOne X.K (.ref C) cv = some b)
    (hb : ∀ (W' : WX) (pn : List (Addr × Obj)) (xe : Value → Shared → Prop), Takes (X.tr pn xe) W' → PassesOwn (model X.prog X.w) X.A X.env xe → TrSs (X.tr pn xe) W' body mb)
    (hsu : ∀ (a : Addr) (oe : Obj) (cls : Value) (d : Option Addr) (pn : List (Addr × Obj)) (c : Str) (y : D), Zc cls d oe → (∃ vs, oe.data = .fields vs) → XAt X a cls d c y → TrSs (X.suite a ((a, oe) :: pn)) WF (b₀ :: suite) (ms c y))
    (hi : X.N[i]? = some n := by rfl) (hln : X.env.kindOf n = some .local := by rfl) :
    TrS0 X W (.Try body [.ExceptHandler (some (.Name x np)) (some n) (b₀ :: suite) pos'] [] [] pos) (mTry i cat mb ms) := by
  intro B ρ σ H Dn hst q
  refine ⟨_, ps_try_as (i := i) (tb := fun W' D σ H => ∃ B ρ τ, St X.K X.mg B ρ τ σ H ∧ PostS X.K X.mg B W' τ D (mb ρ)) (ts := fun a cls d D σ H => ∃ c y B ρ τ, XAt X a cls d c y ∧ St X.K X.mg B ρ τ σ H ∧ PostS X.K X.mg B WF τ D (ms c y ρ)) hs hf xn hi hln hc tk
    (fun W' pn xe tk' hp => ⟨fun pins s σ H D I h => by
      obtain ⟨B, ρ, τ, h1, h2⟩ := h
      exact pss_any.run pins s σ H D I (hb W' pn xe tk' hp B ρ τ σ H D h1 h2)⟩)
    (fun a oe cls d pn hz hv => ⟨fun pins s σ H D I h => by
      obtain ⟨c, y, B, ρ, τ, h0, h1, h2⟩ := h
      exact pss_any.run pins s σ H D I (hsu a oe cls d pn c y hz hv h0 B ρ τ σ H D h1 h2)⟩), B, ρ, [], hst, ?_⟩
  unfold mTry at q
  cases h1 : mb ρ with
  | er => rw [h1] at q; exact q
  | ok f ρ1 => rw [h1] at q; cases f <;> exact q
  | ex c ns ds ρ1 =>
    rw [h1] at q
    simp only at q
    intro σ' C d H' ⟨Hk, w, h⟩ hx
    cases h2 : cat c with
    | none => rw [h2] at q; exact q.elim
    | some b =>
      rw [h2] at q
      refine ⟨b, hcat c b C h2 hx.1, fun hb a na => ?_, fun hb => ?_⟩
      · subst hb
        simp only at q
        -- the data
        obtain ⟨y, Hk', hy, hxa, ry, h'⟩ : ∃ (y : D) (Hk' : Hp), IsX ns ds y ∧ XAt X a (.ref C) d c y ∧ Rep X.K X.mg Hk' (.ref a) y ∧ StI X.K X.mg B Hk' w ρ1 [] σ' H' := by
          rcases hx.2 with ⟨e1, e2, e3⟩ | ⟨n, z, dd, v, e1, e2, e3, e4, e5⟩
          · exact ⟨.adr a, Hk, .inl ⟨e1, e2, a, rfl⟩, ⟨⟨C, rfl, hx.1⟩, .inl ⟨e3, rfl⟩⟩, .adr, h⟩
          · obtain ⟨Hk', ek, hk, h'⟩ := h.learn e4 (.inr ⟨_, rfl⟩)
            exact ⟨.exc a dd n z, Hk', .inr ⟨n, z, a, dd, e1, e2, rfl⟩, ⟨⟨C, rfl, hx.1⟩, .inr ⟨dd, n, z, e3, rfl⟩⟩, .exc hk (Rep.up (fun _ _ z => by simp at z) e5), h'⟩
        have hne : same (IsX ns ds) (fun x => wipeF i (mSuite i (ms c) x ρ1)) ≠ .er := fun z => by rw [z] at q; exact q
        have e := same_at hne y hy
        rw [← e] at q
        unfold mSuite at q
        rw [bind_at] at q
        unfold M.sto at q
        cases h3 : put i (.cl y) ρ1 with
        | none => rw [h3] at q; exact q.elim
        | some ρ2 =>
          rw [h3] at q
          have q : PostS X.K X.mg B W [] Dn (wipeF i (ms c y ρ2)) := q
          have hs2 : St X.K X.mg B ρ2 [] (σ'.set i (some (.ref a))) H' := put_st h3 ⟨Hk', w, h'.push ry⟩
          refine ⟨c, y, B, ρ2, [], hxa, hs2, ?_⟩
          cases h4 : ms c y ρ2 with
          | er => rw [h4] at q; exact q
          | ex c' ns' ds' ρ3 => rw [h4] at q; exact q.elim
          | ok f ρ3 =>
            rw [h4] at q
            cases f with
            | nx => exact fun σ6 H6 ⟨Hk6, w6, h6⟩ => q _ _ ⟨Hk6, w6, h6.forget i none⟩
            | bk => exact fun σ6 H6 ⟨Hk6, w6, h6⟩ => q _ _ ⟨Hk6, w6, h6.forget i none⟩
            | ct => exact fun σ6 H6 ⟨Hk6, w6, h6⟩ => q _ _ ⟨Hk6, w6, h6.forget i none⟩
            | rt r => exact fun v σ6 H6 ⟨Hk6, w6, h6⟩ => q v σ6 H6 ⟨Hk6, w6, h6.forgetN i⟩
      · subst hb
        exact q σ' C d H' ⟨Hk, w, h⟩ hx
end
end Vy
namespace Vy
open PySem PySem.Spec PyProof.Rows L2
open Evl (Ex)
/-! ### methods that read -/
def tyD (T : String) : D → Bool
  | .str _ => T == "str"
  | .lst _ => T == "list"
  | .dct _ _ => false
  | _ => false
def RmOk (X : Cx) (id : String) (g : D → List D → Option R) : Prop := ∀ B Hk w ρ τ σ H Q v d us ds r, StI X.K X.mg B Hk w ρ τ σ H → Rep X.K X.mg Hk v d → RepL X.K X.mg Hk us ds → g d ds = some r → (∀ z H', St X.K X.mg B ρ ((z, r) :: τ) σ H' → Q z H') → MtAny X id v us H Q
def mRm (T : String) (g : D → List D → Option R) (m : M R) (ms : M (List R)) : M R := m >>= fun r => if tyD T r.d then ms >>= fun rs => M.opt (g r.d (rs.map R.d)) else M.fail
section
variable {K : PySem.W.Frag} {mg : Str → Option Value} {B : Bs} {Hk H : Hp} {w : Addr → Option Own} {ρ : State} {τ : List (V × R)} {σ : L2.St}
theorem tyD_ok {T : String} {v : V} {d : D} (h : View K mg Hk H v d) (e : Ex Hk H) (ht : tyD T d = true) : tyV K T v H := by
  cases d <;> simp only [tyD, Bool.false_eq_true] at ht
  · rw [h.str_eq]
    exact eq_of_beq ht
  · obtain ⟨a, xs, rfl, ha, _⟩ := h.lst e
    exact .inl ⟨eq_of_beq ht, xs, SqL.of ha⟩
/-- the values pending above the receiver are clean, and it too -/
theorem StI.clean_rm {v : V} {x : R} {us : List V} {rs : List R} (hl : us.length = rs.length) (h : StI K mg B Hk w ρ ((us.zip rs).reverse ++ (v, x) :: τ) σ H) : ∃ Hk', StI K mg B Hk' w ρ τ σ H ∧ Rep K mg Hk' v x.d ∧ RepL K mg Hk' us (rs.map R.d) := by
  obtain ⟨Hk1, _, h1, r1⟩ := clean_args hl h
  obtain ⟨Hk2, e2, h2⟩ := h1.clean
  exact ⟨Hk2, h2.pop, h2.temps.1, r1.up e2⟩
end
section
variable {X : Cx} {W : WX} {e a b : Expr} {es : List Expr} {m ma : M R} {ms : M (List R)} {T name : Str} {pos apos : Pos} {id : String} {TT : String}
theorem rm_go {B : Bs} {ρ : State} {τ : List (V × R)} {σ : L2.St} {Q : VK} {v : V} {x : R} {us : List V} {rs : List R} {g : D → List D → Option R} {H : Hp} (hf : RmOk X id g) (hl : us.length = rs.length) (hs : St X.K X.mg B ρ ((us.zip rs).reverse ++ (v, x) :: τ) σ H)
    (q : PostE X.K X.mg B W τ σ Q ((M.opt (g x.d (rs.map R.d)) : M R) ρ)) : MtAny X id v us H Q := by
  obtain ⟨Hk, w, h⟩ := hs
  obtain ⟨Hk', h', rv, ru⟩ := h.clean_rm hl
  unfold M.opt at q
  cases hg : g x.d (rs.map R.d) with
  | none => rw [hg] at q; exact q.elim
  | some r =>
    rw [hg] at q
    exact hf B Hk' w ρ τ σ H Q v x.d us (rs.map R.d) r h' rv ru hg q
theorem tr_rm {g : D → List D → Option R} (pa : PlainAttrs TT) (slot : PySem.Slot TT name id) (hty : typeOf (.builtin id) = pure (.type "method_descriptor")) (hf : RmOk X id g) (he : TrE X W e m) (ha : TrA X W (a :: es) ms)
    (hbase : attributeBase e name X.env (eval e X.env) = eval e X.env := by rfl)
    (hfew : ((backTo pos (starEach (a :: es) X.env)).all (fun x => !x.1) && (backToKw pos (keywordEach [] X.env)).all (fun x => x.1.isSome) && decide ((a :: es).length + ([] : List Keyword).length + (if ([] : List Keyword).isEmpty then 0 else 1) < 30)) = true := by rfl)
    (hline : (apos.endLine == pos.line) = true := by rfl) (hse : starEach (a :: es) X.env = (false, eval a X.env) :: starEach es X.env := by rfl) (hplain : (backTo pos (starEach es X.env)).any (·.1) = false := by rfl) :
    TrE X W (.Call (.Attribute e name apos) (a :: es) [] pos) (mRm TT g m ms) := by
  intro B ρ τ σ H Q hs q
  refine ⟨tBM X.K TT (MtAny X id) (AnyE X e) (AnyA X (a :: es)), pe_bm pa slot hty mt_any pe_any pa_any hbase hfew hline hse hplain, he B ρ τ σ H _ hs ?_⟩
  have q : PostE X.K X.mg B W τ σ Q ((m ρ).then fun r => if tyD TT r.d then ms >>= fun rs => M.opt (g r.d (rs.map R.d)) else M.fail) := q
  cases h1 : m ρ with
  | er => rw [h1] at q; exact q
  | ex c ns ds ρ' => rw [h1] at q; exact q
  | ok r ρ1 =>
    rw [h1] at q
    have q : PostE X.K X.mg B W τ σ Q ((if tyD TT r.d then ms >>= fun rs => M.opt (g r.d (rs.map R.d)) else M.fail) ρ1) := q
    intro v H1 hs1
    cases ht : tyD TT r.d with
    | false => rw [ht] at q; exact q.elim
    | true =>
      rw [ht, if_pos rfl, bind_at] at q
      refine ⟨?_, ?_⟩
      · obtain ⟨Hk, w, hI⟩ := hs1
        exact tyD_ok hI.view hI.e1 ht
      · refine ha B ρ1 _ σ H1 _ hs1 ?_
        cases h2 : ms ρ1 with
        | er => rw [h2] at q; exact q
        | ex c ns ds ρ' => rw [h2] at q; exact q
        | ok rs ρ2 =>
          rw [h2] at q
          exact fun us H2 hl hs2 => rm_go hf hl hs2 q
end
/-! the first place of a thing, how often it is there -/
def dIdx (x : D) (ds : List D) : Option R := match x, ds with
  | .lst xs, [y] => match (D.lst xs).py, y.py with
    | some (.list ps), some d => if SeqAt.shaped (.list ps) && SeqAt.shaped d then (ps.findIdx? fun z => PyData.eqv z d).map fun j => .cl (.int (j : Nat)) else none
    | _, _ => none
  | _, _ => none
def dCnt (x : D) (ds : List D) : Option R := match x, ds with
  | .lst xs, [y] => match (D.lst xs).py, y.py with
    | some (.list ps), some d => if SeqAt.shaped (.list ps) && SeqAt.shaped d then some (.cl (.int (ps.countP fun z => PyData.eqv z d : Nat))) else none
    | _, _ => none
  | _, _ => none
section
variable {X : Cx}
theorem one_arg {K : PySem.W.Frag} {mg : Str → Option Value} {H : Hp} {us : List V} {y : D} (h : RepL K mg H us [y]) : ∃ u, us = [u] ∧ Rep K mg H u y := by
  cases h with
  | cons r t => cases t; exact ⟨_, rfl, r⟩
theorem rm_idx (hu : X.A.units + 65 < cLine) : RmOk X "list.index" dIdx := by
  intro B Hk w ρ τ σ H Q v d us ds r h rv ru hg k
  unfold dIdx at hg
  split at hg
  · rename_i xs y
    split at hg
    · rename_i ps d' h1 h2
      split at hg
      · rename_i hs
        simp only [Bool.and_eq_true] at hs
        obtain ⟨j, hj, rfl⟩ := Option.map_eq_some_iff.mp hg
        obtain ⟨u, rfl, r1⟩ := one_arg ru
        have hl := View.dp (.inl rv) h.e1 h1
        have hy := View.dp (.inl r1) h.e1 h2
        cases rv with
        | @lst a vs _ ha ra =>
          obtain ⟨hj1, hj2, hj3⟩ := List.findIdx?_eq_some_iff_getElem.mp hj
          exact ⟨_, mt_indexD hu, a, u, d', ps, j, ps[j], rfl, rfl, hl, hy, hs.1, hs.2, List.getElem?_eq_getElem hj1, hj2, fun m z' hm hz => by
            obtain ⟨hm1, rfl⟩ := List.getElem?_eq_some_iff.mp hz
            simpa using hj3 m hm, k _ _ ⟨Hk, w, h.push (.int _)⟩⟩
      · cases hg
    · cases hg
  · cases hg
def rCntD (K : PySem.W.Frag) : V → List V → Hp → VK → Prop := fun x xs H Q => ∃ (a : Addr) (y : V) (d : PyData) (ds : List PyData), x = V.ref a ∧ xs = [y] ∧ Dp K H (V.ref a) (.list ds) ∧ Dp K H y d ∧
  SeqAt.shaped (.list ds) = true ∧ SeqAt.shaped d = true ∧ Q (.int (ds.countP fun z => PyData.eqv z d : Nat)) H
theorem mt_cntD (hu : X.A.units + 65 < cLine) : MtR X "list.count" (rCntD X.K) := by
  intro pins s σ H x xs v us Q I rx rxs h
  obtain ⟨a, y, d, ds, rfl, rfl, hl, hy, sl, sd, q⟩ := h
  cases rx
  cases rxs with
  | cons ry rt =>
    rename_i uy ut
    cases rt
    obtain ⟨bs, r1⟩ := Dp.reads I d y uy hy ry
    have hxs : PyData.canLayAll0 ds = true := SeqAt.canLay_of_shaped sl
    have hroom : X.A.units + 1 + min (PyData.depthAll ds) d.depth < cLine := room_in_shaped sd hu
    cases hl with
    | lst hs ha =>
      obtain ⟨its, rv, ⟨⟨cls, dd, data, sls⟩, n, ho, hc, hdn, hdt⟩, hlen⟩ := I.list hs
      simp only at hc hdt
      subst hc hdt
      obtain ⟨as, h4⟩ := Dp.readsAll I ds _ its ha rv
      have hmap : its.map (SeqAt.readOf s.heap) = ds := SeqAt.readsAll_map ds its as hxs h4
      refine call_meets PySem.F.slot_list_count ⟨_, ho, rfl⟩ PySem.F.entry_list_count (PySem.F.args_list_count_2 _ _)
        (SeqAt.list_countAt a its.toArray n dd sls uy (fun u => PyData.eqv (SeqAt.readOf s.heap u) d)) ⟨ho, SeqAt.items_eqAt (vs := its.toArray) (show ReadsAll s.heap its.toArray.toList ds as from h4) r1 hxs (SeqAt.canLay_of_shaped sd) hroom, ?_⟩
      have ec : its.toArray.toList.countP (fun u => PyData.eqv (SeqAt.readOf s.heap u) d) = ds.countP fun z => PyData.eqv z d := by
        rw [← hmap, List.countP_map]
        rfl
      refine ⟨.int (ds.countP fun z => PyData.eqv z d : Nat), H, I.tok _, ⟨s.toks, ?_⟩, q⟩
      show Value.int ((its.toArray.toList.countP (fun u => PyData.eqv (SeqAt.readOf s.heap u) d) : Nat) : Int) s.toks = _
      rw [ec]
theorem rm_cnt (hu : X.A.units + 65 < cLine) : RmOk X "list.count" dCnt := by
  intro B Hk w ρ τ σ H Q v d us ds r h rv ru hg k
  unfold dCnt at hg
  split at hg
  · rename_i xs y
    split at hg
    · rename_i ps d' h1 h2
      split at hg
      · rename_i hs
        simp only [Bool.and_eq_true] at hs
        cases hg
        obtain ⟨u, rfl, r1⟩ := one_arg ru
        have hl := View.dp (.inl rv) h.e1 h1
        have hy := View.dp (.inl r1) h.e1 h2
        cases rv with
        | @lst a vs _ ha ra => exact ⟨_, mt_cntD hu, a, u, d', ps, rfl, rfl, hl, hy, hs.1, hs.2, k _ _ ⟨Hk, w, h.push (.int _)⟩⟩
      · cases hg
    · cases hg
  · cases hg
end
end Vy
namespace Vy
open PySem PySem.Spec PyProof.Rows L2
open Evl (Ex)
/-! ### a lambda handed to a def -/
section
variable {K : PySem.W.Frag} {mg : Str → Option Value} {B : Bs} {Hk H H1 : Hp} {w : Addr → Option Own} {ρ : State} {τ : List (V × R)} {σ : L2.St}
/-- the tables have grown, and things are new -/
theorem StI.ext (h : StI K mg B Hk w ρ τ σ H) (e : LamX.ExtN H H1) (t : LamX.Tabs (LawTabs K) H1) (hnew : ∀ a ps, H1 a = some (.tbl ps) → H a ≠ none) : StI K mg B Hk w ρ τ σ H1 := by
  have notT : ∀ {a : Addr} {o : HO}, H a = some o → ¬ IsTab K a → ∀ ps, o ≠ .tbl ps := fun {a o} ho n ps z => n (h.live.ta a ps (by rw [ho, z]))
  have kk : ∀ {a : Addr} {o : HO}, H a = some o → ¬ IsTab K a → H1 a = some o := fun {a o} ho n => e a o ho (notT ho n)
  have hkT : ∀ a o, Hk a = some o → ¬ IsTab K a := fun a o ho ⟨x, hx, ea⟩ => by
    obtain ⟨n1, n2, _⟩ := h.live.t0 x hx
    rcases h.nk _ n1 n2 with z | z
    · rw [ea, ho] at z; cases z
    · exact h.live.fz_tab ⟨x, hx, rfl⟩ z
  have keep : ∀ q, NT H q → ∀ u, H q = some u → H1 q = some u := fun q n u hu => e q u hu fun ps z => n.tbl ps (by rw [hu, z])
  refine ⟨h.len, h.e0, fun a o ho => kk (h.e1 a o ho) (hkT a o ho), fun a o ho n => kk (h.fr a o ho n) fun z => n (h.live.io_tab z), fun a n0 k0 => ?_, ⟨fun a n0 => ?_, t, h.live.t0, fun a ps z => ?_⟩, fun i x sl e1 e2 => (h.slots i x sl e1 e2).up (fun _ _ z => z) fun q a b c => ⟨a, c, keep q b⟩, h.temps.up (fun _ _ z => z) fun n q _ a b c => ⟨a, c, keep q b⟩⟩
  · rcases h.nk a n0 k0 with z | z
    · exact .inl z
    · rcases id z with ⟨φ, q⟩ | ⟨fs, q⟩
      · exact .inr (.inl ⟨φ, e a _ q fun ps z => nomatch z⟩)
      · exact .inr (.inr ⟨fs, e a _ q fun ps z => nomatch z⟩)
  · have := h.live.lv a n0
    cases q : H a with
    | none => exact absurd q this
    | some o =>
      by_cases ht : IsTab K a
      · obtain ⟨x, hx, rfl⟩ := ht
        obtain ⟨ps, z, _⟩ := t x hx
        rw [z]; simp
      · rw [kk q ht]; simp
  · cases q : H a with
    | none => exact absurd q (hnew a ps z)
    | some o =>
      by_cases ht : IsTab K a
      · exact ht
      · rw [kk q ht] at z
        cases z
        exact absurd rfl (notT q ht ps)
end
/-- the slots that a lambda sees -/
def seen (n : Nat) : List Nat → List D → State
  | i :: is, d :: ds => (seen n is ds).set i (.va d)
  | _, _ => List.replicate n .no
theorem seen_len (n : Nat) : ∀ (is : List Nat) (ds : List D), (seen n is ds).length = n
  | [], _ => by simp [seen]
  | _ :: _, [] => by simp [seen]
  | i :: is, d :: ds => by simp [seen, seen_len n is ds]
theorem seen_at {n : Nat} : ∀ {is : List Nat} {ds : List D} {i : Nat} {sl : Slot}, (seen n is ds)[i]? = some sl → sl = .no ∨ ∃ (j : Nat) (d : D), is[j]? = some i ∧ ds[j]? = some d ∧ sl = .va d
  | [], ds, i, sl, h => by
    simp only [seen] at h
    obtain ⟨_, e⟩ := List.getElem?_eq_some_iff.mp h
    rw [List.getElem_replicate] at e
    exact .inl e.symm
  | _ :: _, [], i, sl, h => by
    simp only [seen] at h
    obtain ⟨_, e⟩ := List.getElem?_eq_some_iff.mp h
    rw [List.getElem_replicate] at e
    exact .inl e.symm
  | k :: is, d :: ds, i, sl, h => by
    simp only [seen] at h
    by_cases e : k = i
    · subst e
      by_cases hl : k < (seen n is ds).length
      · rw [List.getElem?_set_self hl] at h
        cases h
        exact .inr ⟨0, d, rfl, rfl, rfl⟩
      · rw [List.getElem?_eq_none (by simpa using hl)] at h
        cases h
    · rw [List.getElem?_set_ne e] at h
      rcases seen_at h with z | ⟨j, d', h1, h2, h3⟩
      · exact .inl z
      · exact .inr ⟨j + 1, d', by simpa using h1, by simpa using h2, h3⟩
/-- captured names are clean from now on -/
def fixAll : List Nat → State → Option (State × List D)
  | [], ρ => some (ρ, [])
  | i :: is, ρ => match ρ[i]? with
    | some (.va d) => (fixAll is ρ).map fun p => (p.1, d :: p.2)
    | some (.ow d) => (fixAll is (ρ.set i (.va d))).map fun p => (p.1, d :: p.2)
    | _ => none
section
variable {K : PySem.W.Frag} {mg : Str → Option Value} {B : Bs} {Hk H H1 : Hp} {w : Addr → Option Own} {ρ ρ' : State} {τ : List (V × R)} {σ : L2.St} {ds : List D}
theorem StI.fixAll : ∀ {is : List Nat} {ρ ρ' : State} {ds : List D} {Hk : Hp} {w : Addr → Option Own}, StI K mg B Hk w ρ τ σ H → Vy.fixAll is ρ = some (ρ', ds) → ∃ Hk' w' vs, Ex Hk Hk' ∧ StI K mg B Hk' w' ρ' τ σ H ∧ is.map (fun i => σ[i]?) = vs.map (fun v => some (some v)) ∧ RepL K mg Hk' vs ds
  | [], ρ, ρ', ds, Hk, w, h, e => by
    cases e
    exact ⟨Hk, w, [], fun _ _ z => z, h, rfl, .nil⟩
  | i :: is, ρ, ρ', ds, Hk, w, h, e => by
    unfold Vy.fixAll at e
    split at e
    · rename_i d hr
      obtain ⟨p, hp, e⟩ := Option.map_eq_some_iff.mp e
      cases e
      obtain ⟨v, hv, rv⟩ := h.val hr
      obtain ⟨Hk', w', vs, ek, h', h1, h2⟩ := StI.fixAll h hp
      exact ⟨Hk', w', v :: vs, ek, h', by rw [List.map_cons, List.map_cons, h1, hv], .cons (rv.up ek) h2⟩
    · rename_i d hr
      obtain ⟨p, hp, e⟩ := Option.map_eq_some_iff.mp e
      cases e
      obtain ⟨Hk1, w1, v, e1, hv, rv, h1⟩ := h.fix hr
      obtain ⟨Hk', w', vs, ek, h', h2, h3⟩ := StI.fixAll h1 hp
      exact ⟨Hk', w', v :: vs, e1.trans ek, h', by rw [List.map_cons, List.map_cons, h2, hv], .cons (rv.up ek) h3⟩
    · cases e
end
/-- what is left of a result without its slots -/
def bare : Res R → Res R
  | .ok r _ => .ok r []
  | .ex c ns ds _ => .ex c ns ds []
  | .er => .er
def noExR : Res R → Res R
  | .ok r _ => .ok r []
  | _ => .er
open Classical in
/-- the call of what was handed over: o is what it does -/
noncomputable def mOra (x : D) (o : Res R) : M R := fun ρ => if ρ[0]? = some (.va x) then (match o with
  | .ok r _ => .ok r ρ
  | .ex c ns ds _ => .ex c ns ds ρ
  | .er => .er) else .er
def IsClo (x : D) : Prop := ∃ f c q σ is xs, x = .clo f c q σ is xs
/-- the def that was handed something, by what the call of it does -/
noncomputable def gTold (n : Nat) (m : M R → M Fl) (o : Res R) : Res R := same IsClo fun x => noExR (bodyF n (m (mOra x o)) [.va x])
noncomputable def mLam (is : List Nat) (n : Nat) (m : M R → M Fl) (mb : M R) : M R := fun ρ => match fixAll is ρ with
  | some (ρ1, xs) => match gTold n m (bare (mb (seen ρ.length is xs))) with
    | .ok r _ => .ok r ρ1
    | _ => .er
  | none => .er
/-- what calls it in the def that got it -/
def Acts (Z : Cx) (a : Str) (x : D) (o : Res R) : Prop := ∀ (W : WX) (pn : List (Addr × Obj)) (xe : Value → Shared → Prop) (p1 p2 : Pos), Takes (Z.tr pn xe) W → TrE (Z.tr pn xe) W (.Call (.Name a p1) [] [] p2) (mOra x o)
/-- a def that calls the one thing that it is handed -/
def Told (P : Program) (w : World) (K : PySem.W.Frag) (mg : Str → Option Value) (base : Heap) (x : Str) (k n : Nat) (m : M R → M Fl) : Prop :=
  ∃ (g : Addr) (st : Stmt) (fd : FuncData) (N : List Str) (a : Str), Fun K x x st g fd ∧ mg x = some (.ref g) ∧ FnScope N [a] (defScope st) ∧ N[0]? = some a ∧ N.length = n ∧ Vis (defScope st) a ∧ (a == ("__debug__" : Str)) = false ∧ (a == ("__classdict__" : Str)) = false ∧ Binds K fd [a] [] ∧
    ∀ (cdv : Value) (A : Around) (outer : List Env) (s : Shared) (H : Hp) (y : D) (o : Res R), XR k (cxOf CX0 P w K mg base N x (defScope st) g cdv A outer s H E0).nox → Acts (cxOf CX0 P w K mg base N x (defScope st) g cdv A outer s H E0) a y o →
      TrSs0 (cxOf CX0 P w K mg base N x (defScope st) g cdv A outer s H E0).nox WF (defBody st) (m (mOra y o))
section
variable {X : Cx} {W : WX}
/-- the names of the lambda's body are read off the maker's slots -/
theorem seen_st {K : PySem.W.Frag} {mg : Str → Option Value} {B : Bs} {Hk H : Hp} {w : Addr → Option Own} {ρ : State} {τ : List (V × R)} {σ σZ : L2.St} {is : List Nat} {xs : List D} {vs : List V} (h : StI K mg B Hk w ρ τ σZ H) (e1 : is.map (fun i => σ[i]?) = vs.map (fun v => some (some v))) (r : RepL K mg Hk vs xs) :
    StI K mg ⟨Hk, H, IsTab K⟩ Hk (fun _ => none) (seen σ.length is xs) [] σ H := by
  refine ⟨seen_len _ _ _, fun _ _ z => z, h.e1, fun _ _ z _ => z, fun _ _ z => .inl z, h.live.sub h.nk fun _ z => z, fun i x sl q1 q2 => ?_, trivial⟩
  rcases seen_at q2 with rfl | ⟨j, d, h1, h2, rfl⟩
  · trivial
  · obtain ⟨v, hv, rv⟩ := r.get h2
    have e2 := congrArg (fun l => l[j]?) e1
    simp only [List.getElem?_map, h1, hv, Option.map_some, Option.some.injEq] at e2
    rw [q1] at e2
    cases e2
    exact ⟨v, rfl, rv⟩
theorem acts_of {CXg : CXT} {Eg : XK} {Ng : List Str} {qg : Str} {sg : Scope} {g f c' : Addr} {cdg pm ctv : Value} {params : Arguments} {body : Expr} {scope : Scope} {k : Nat} {a : Str} {pins : List (Addr × Obj)} {σ : L2.St} {H : Hp} {s : Shared} {is : List Nat} {xs : List D} {mb : M R}
    (I : Inv X pins σ H s) (L : LamX.LamS X.env.scope scope) (hf : s.heap.get? f = some (PySem.W.kla_obj "<lambda>" (X.env.qual ++ "<lambda>") params body scope (cloFrom X.env.cells scope.names []) pm c' ctv)) (hfn : H f = none) (hfr : f ∉ frs X.stack)
    (hbind : bindArgs (PySem.W.kla_fn "<lambda>" (X.env.qual ++ "<lambda>") params body scope (cloFrom X.env.cells scope.names []) pm (.ref c') ctv) ⟨[], []⟩ = pure [])
    (hr : Room (k + 1) (X.A.deeper (envOfC qg sg s.heap.objs.size g cdg)))
    (hbody : ∀ (A : Around) (outer : List Env) (s1 : Shared) (H : Hp) (E : XK), A.guards = X.A.guards → Room k (A.deeper (LamX.lamEnv X scope s1.heap.objs.size f c')) → TrE (LamX.lamCx X A outer s1 H E scope f c') (wOf E) body mb)
    (hN : Ng[0]? = some a) (hv : Vis sg a) (hd : (a == ("__debug__" : Str)) = false) (hcd : (a == ("__classdict__" : Str)) = false) :
    Acts (cxOf CXg X.prog X.w X.K X.mg X.base Ng qg sg g cdg X.A X.stack s H Eg) a (.clo f c' (X.env.qual ++ "<lambda>") σ is xs) (bare (mb (seen σ.length is xs))) := by
  intro W pn xe p1 p2 tk B ρ τ σZ HZ Q hs q
  unfold mOra at q
  by_cases h0 : ρ[0]? = some (.va (.clo f c' (X.env.qual ++ "<lambda>") σ is xs))
  case neg => rw [if_neg h0] at q; exact q.elim
  rw [if_pos h0] at q
  obtain ⟨Hk, w, h⟩ := hs
  obtain ⟨v, hv0, rv⟩ := h.val h0
  cases rv with
  | @clo _ _ _ _ _ vs _ hc e1 rx =>
  -- the reading: the name, then the body at the maker's slots
  refine ⟨fun σ1 H1 Q1 => σ1 = σZ ∧ H1 = HZ ∧ PostE X.K X.mg B W τ σZ Q1 (match bare (mb (seen σ.length is xs)) with
    | .ok r _ => .ok r ρ
    | .ex c ns ds _ => .ex c ns ds ρ
    | .er => (.er : Res R)), ⟨fun pinsZ sZ σ1 H1 Q1 IZ hq => ?_⟩, rfl, rfl, q⟩
  obtain ⟨rfl, rfl, hq⟩ := hq
  refine wpAny_Call_Name_kw (thn ((pe_var (pos := p1) (i := 0) hN hv hd hcd).run pinsZ sZ _ _ (fun y H2 => y = .ref f ∧ H2 = H1) IZ ⟨.ref f, hv0, rfl, rfl⟩) fun u s1 hh => ?_)
  obtain ⟨y, H2, I1, ry, ey, eH⟩ := hh
  subst ey eH
  obtain rfl : u = Value.ref f := ry
  have there := I1.base.keep f _ hf hfn hfr (fun z => nomatch (show f ∈ ([] : List Addr) from z))
  refine PySem.W.callWith_F0 ⟨_, _, _, _, there⟩ ?_
  obtain ⟨⟨oc, ws, t, hoc, hdc, hwc⟩, _, _⟩ := I1.hok c' _ (h.e1 _ _ hc)
  have un : Un (frs X.stack) [] H H2 s.heap s1.heap := I1.base
  -- what the body leaves behind
  let E : XK := fun cls d H' => W cls d σ1 H'
  have rc : codeAny (model X.prog X.w) (X.A.deeper (envOfC qg sg s.heap.objs.size g cdg)) (.call (.ref f) ⟨[], []⟩) (CR (L2.CX X.prog X.w) (envOfC qg sg s.heap.objs.size g cdg :: X.stack) X.prog X.w H2 s1 Q1 E) s1 := by
    refine PySem.W.kla_callFunE hr.depth there rfl L.co L.gen rfl ⟨c', oc, ws, t, rfl, hoc, hdc, hwc⟩ ?_
    rw [hbind]
    refine wpAny_pure (wpAny_newFunctionEnv (fun y hy => (L.own y hy).2) (fun y hy => absurd hy (by simp)) (fun h₁ hns hsb => ⟨I1.nolimit.fresh _ hsb, ?_⟩) L.kind)
    show codeAny _ _ (.expr body (LamX.lamEnv X scope s1.heap.objs.size f c')) _ _
    have J := LamX.lam_start2 (E := E) (f := f) (c' := c') (tk := s1.toks + ([] : List (Str × Value)).length) I L I1.env0 hr.hd un hns fun b o e => hsb.extBut b o (Nat.ne_of_lt (Heap.lt_size e)) (Heap.get?_push_of_some _ e)
    have hst := seen_st h e1 rx
    obtain ⟨tt, ht, hgo⟩ := hbody (X.A.deeper (envOfC qg sg s.heap.objs.size g cdg)) (envOfC qg sg s.heap.objs.size g cdg :: X.stack) s1 H2 E rfl (hr.deeper _) ⟨Hk, H2, IsTab X.K⟩ (seen σ.length is xs) [] σ H2 Q1 ⟨Hk, _, hst⟩ (by
      show PostE X.K X.mg ⟨Hk, H2, IsTab X.K⟩ (wOf E) [] σ Q1 (mb (seen σ.length is xs))
      cases h1 : mb (seen σ.length is xs) with
      | er => rw [h1] at hq; exact hq
      | ok r ρ1 =>
        rw [h1] at hq
        rintro z H' ⟨Hk2, w2, c⟩
        obtain ⟨w', h2⟩ := h.after0 rfl rfl (fun _ z => z) c
        exact hq z H' ⟨Hk2, w', h2⟩
      | ex cc ns ds ρ1 =>
        rw [h1] at hq
        rintro C d H' ⟨Hk2, w2, c⟩ hx
        exact hq C d H' ⟨Hk2, w, h.gone0 rfl rfl (fun _ z => z) c⟩ hx)
    refine PySem.W.kla_codeExpr (wpAny_mono (ht.run [] _ σ H2 Q1 J hgo) (fun z s2 hz => ?_) fun e s2 hz => hz)
    obtain ⟨y, H3, J3, ry, qy⟩ := hz
    exact ⟨y, H3, J3.os, J3.bare, J3.base, J3.hok, ry, qy⟩
  refine wpAny_call (codeAny_mono rc fun r s2 hz => ?_)
  match r, hz with
  | .error e, hz => exact passAt (W := W) tk σ1 pinsZ H2 s1 e s2 I1 hz
  | .ok (.ret u), hz => exact I1.after hz
  | .ok .next, hz => exact hz.elim
  | .ok .brk, hz => exact hz.elim
  | .ok .cont, hz => exact hz.elim
end
/-! the making of a lambda, and what of the heap it leaves -/
section
variable {X : Cx} {pins : List (Addr × Obj)} {σ : L2.St} {H : Hp} {s : Shared}
theorem lam_born {T : List (Addr × Str)} {c P : Addr} {params : Arguments} {body : Expr} {scope : Scope} {pos : Pos} {E Q : Value → Shared → Prop} (I : Inv X pins σ H s) (B : LamX.TabB X.base X.mg c P) (hc : X.env.code = .ref c)
    (hm : (P, X.env.qual ++ "<lambda>") ∈ T) (hu : ∀ p ∈ T, p.1 = P → p.2 = X.env.qual ++ "<lambda>") (hT : LamX.Tabs T H) (hd : defaultsOf params X.env = ([], [])) (hf : ∀ y ∈ scope.names, y.2 = .free → ∃ c, X.env.cells.lookup y.1 = some c)
    (go : ∀ (f c' : Addr) (pm ctv : Value) (H' : Hp) (s' : Shared), Inv X pins σ H' s' → LamX.ExtN H H' → LamX.Tabs T H' → (∀ a ps, H' a = some (.tbl ps) → H a ≠ none) →
      s'.heap.get? f = some (PySem.W.kla_obj "<lambda>" (X.env.qual ++ "<lambda>") params body scope (cloFrom X.env.cells scope.names []) pm c' ctv) → H' f = none → f ∉ frs X.stack → H' c' = some (LamX.CodeO c' (X.env.qual ++ "<lambda>")) → Q (.ref f) s') :
    wpAny (model X.prog X.w) X.A (eval (.Lambda params body scope pos) X.env) Q E s := by
  obtain ⟨tb, hP, tok, tall⟩ := hT _ hm
  have atP : s.heap.get? P = some { cls := .none, data := .fields tb } := I.hok P _ hP
  have bmP : s.heap.BuiltinsAt X.mg P := B.bm.keeps I.bk
  have away : ∀ f, s.heap.objs.size ≤ f → f ∉ frs X.stack := fun f hs hin => (List.mem_cons.mp (I.stkSub _ hin)).elim (fun e => by
    have := I.lt
    rw [← e] at this
    exact absurd this (Nat.not_lt.mpr hs)) (I.nofs hs)
  refine PySem.W.kla_eval hd ?_
  cases hat : codeAmong pos tb.toList with
  | some cv =>
    obtain ⟨c', ec, hco⟩ := tall pos cv hat
    subst ec
    refine PySem.W.kla_makeFunctionHit (mg := X.mg) (c := c) (P := P) (ps := tb) (closure_ok hf) I.ok.glob (I.mod.glob.keeps I.bk) hc (B.code.keeps I.bk) atP tok hat bmP fun ctv hp tk keeps hsz => ?_
    refine go hp.objs.size c' _ ctv H _ (I.kept fun b o e => Heap.get?_push_of_some _ (keeps b o e)) (LamX.ExtN.refl H) hT (fun a ps z n => by rw [n] at z; cases z) (Heap.get?_push_size _ rfl) (I.hok.fresh hsz) (away _ hsz) hco
  | none =>
    refine PySem.W.kla_makeFunction (mg := X.mg) (c := c) (P := P) (ps := tb) (closure_ok hf) I.ok.glob (I.mod.glob.keeps I.bk) hc (B.code.keeps I.bk) atP tok hat B.gP bmP fun c' ctv hp tk keeps hge hlt hrec htb => ?_
    obtain ⟨c2, oc, vs, t, e2, g1, g2, g3⟩ := hrec
    cases e2
    have hsz : s.heap.objs.size ≤ hp.objs.size := Nat.le_trans hge (Nat.le_of_lt hlt)
    have nc : H c' = none := I.hok.fresh hge
    let new : List Value := [rawInt pos.line, rawInt pos.col, .ref c']
    have J := LamX.inv_table (q := X.env.qual ++ "<lambda>") (t' := tk) (more := new.toArray) (h' := hp.push (PySem.W.kla_obj "<lambda>" (X.env.qual ++ "<lambda>") params body scope (cloFrom X.env.cells scope.names []) ((X.mg "__name__").getD .none) c' ctv)) I hP
      (fun b o hb e => Heap.get?_push_of_some _ (keeps b o hb e)) (Heap.get?_push_of_some _ htb) hge ⟨oc, vs, t, Heap.get?_push_of_some _ g1, g2, g3⟩
    have far : LamX.ExtN H (upd (upd H P (.tbl (tb ++ new.toArray))) c' (LamX.CodeO c' (X.env.qual ++ "<lambda>"))) := fun b o e n => by
      have n1 : b ≠ c' := ne_of_none e nc
      have n2 : b ≠ P := fun z => n tb (by rw [z, hP] at e; exact (Option.some.inj e).symm)
      rw [upd_ne n1, upd_ne n2]
      exact e
    have n1 : hp.objs.size ≠ c' := Nat.ne_of_gt hlt
    have n2 : hp.objs.size ≠ P := Nat.ne_of_gt (Nat.lt_of_lt_of_le (Heap.lt_size atP) hsz)
    have nPc : P ≠ c' := ne_of_none hP nc
    refine go hp.objs.size c' _ ctv _ _ J far (fun p hp => ?_) (fun a ps z n => ?_) (Heap.get?_push_size _ rfl) (by rw [upd_ne n1, upd_ne n2]; exact I.hok.fresh hsz) (away _ hsz) upd_same
    · by_cases hb : p.1 = P
      · have el : (tb ++ new.toArray).toList = tb.toList ++ new := by simp
        rw [hu p hp hb, hb]
        refine ⟨tb ++ new.toArray, by rw [upd_ne nPc, upd_same], by rw [el]; exact PySem.TriplesOk_snoc _ _ _ _ tok, fun pos' cv hcv => ?_⟩
        rw [el] at hcv
        rcases LamX.among_app _ tok hcv with z | z
        · obtain ⟨d, q1, q2⟩ := tall pos' cv z
          exact ⟨d, q1, far _ _ q2 LamX.codeO_ne⟩
        · exact ⟨c', z, upd_same⟩
      · obtain ⟨ps', a1, a2, a3⟩ := hT p hp
        refine ⟨ps', by rw [upd_ne (ne_of_none a1 nc), upd_ne hb]; exact a1, a2, fun pos' cv hcv => ?_⟩
        obtain ⟨d, q1, q2⟩ := a3 pos' cv hcv
        exact ⟨d, q1, far _ _ q2 LamX.codeO_ne⟩
    · by_cases ha : a = c'
      · subst ha
        rw [upd_same] at z
        cases z
      · rw [upd_ne ha] at z
        by_cases hb : a = P
        · subst hb; rw [hP] at n; cases n
        · rw [upd_ne hb, n] at z; cases z
end
section
variable {X : Cx} {W : WX} {x : Str} {c P : Addr} {params : Arguments} {body : Expr} {scope : Scope} {is : List Nat} {n k kt kb : Nat} {m : M R → M Fl} {mb : M R} {p lpos pos : Pos}
/-- x(lambda: body) -/
theorem tr_lam (C : Told X.prog X.w X.K X.mg X.base x kt n m) (xr : XR k X) (hcode : X.env.code = .ref c) (TB : LamX.TabB X.base X.mg c P) (hmT : (P, X.env.qual ++ "<lambda>") ∈ LawTabs X.K) (hu : ∀ p ∈ LawTabs X.K, p.1 = P → p.2 = X.env.qual ++ "<lambda>") (L : LamX.LamS X.env.scope scope)
    (hb : ∀ (A : Around) (outer : List Env) (s : Shared) (H : Hp) (E : XK) (f c' : Addr), XR kb (LamX.lamCx X A outer s H E scope f c') → Takes (LamX.lamCx X A outer s H E scope f c') (wOf E) → TrE (LamX.lamCx X A outer s H E scope f c') (wOf E) body mb)
    (hk : kb + 2 ≤ k ∧ kt + 1 ≤ k := by decide) (hg : Gl X x := by rfl) (hdef : defaultsOf params X.env = ([], []) := by rfl) (hbind : ∀ (q : Str) (cl : List (Str × Addr)) (pm cv ctv : Value), bindArgs (PySem.W.kla_fn "<lambda>" q params body scope cl pm cv ctv) ⟨[], []⟩ = pure [] := by exact fun _ _ _ _ _ => rfl)
    (hdb : (x == ("__debug__" : Str)) = false := by decide) : TrE X W (.Call (.Name x p) [.Lambda params body scope lpos] [] pos) (mLam is n m mb) := by
  obtain ⟨g, st, fd, N, a, F, hm, S, hN, hNn, hva, hd1, hd2, hbd, hbody⟩ := C
  intro B ρ τ σ H Q hst q
  unfold mLam at q
  cases hfix : fixAll is ρ with
  | none => rw [hfix] at q; exact q.elim
  | some pr =>
  obtain ⟨ρ1, xs⟩ := pr
  rw [hfix] at q
  simp only at q
  refine ⟨fun σ1 H1 Q1 => σ1 = σ ∧ H1 = H ∧ Q1 = Q, ⟨fun pins s σ1 H1 Q1 I hq => ?_⟩, rfl, rfl, rfl⟩
  obtain ⟨rfl, rfl, rfl⟩ := hq
  obtain ⟨Hk, w, h⟩ := hst
  obtain ⟨Hk1, w1, vs, ek, h1, e1, rx⟩ := h.fixAll hfix
  obtain ⟨oc, od, kV, doc, pm, an, cdv, ct, osl, rfl, lk, hcd⟩ := F.ex
  refine wpAny_Call_Name_kw (ld_glob I hg hm ?_ hdb)
  refine PySem.W.callWith_K (h₀ := X.base) I.ok.mod.kin F.kp ?_ (by rfl) (by rfl)
  show wpAny _ _ (spliced ((false, eval (.Lambda params body scope lpos) X.env) :: backTo pos (starEach [] X.env))) _ _ s
  refine Calls.spliced_cons (lam_born I TB hcode hmT hu h1.live.tb hdef (L.has I.ok) fun f c' pm' ctv H2 s' I2 eN T2 hnew hf hfn hfr hco => ?_)
  refine Calls.spliced_nil ⟨I2.kIn, ?_⟩
  have h2 := h1.ext eN T2 hnew
  obtain ⟨Hk2, ek2, hk2, h3⟩ := h2.learn hco (.inl ⟨_, rfl⟩)
  have rx2 : RepL X.K X.mg Hk2 vs xs := rx.up ek2
  -- the thing that is handed over
  let y : D := .clo f c' (X.env.qual ++ "<lambda>") σ1 is xs
  have ry : Rep X.K X.mg Hk2 (.ref f) y := .clo hk2 e1 rx2
  have rm : Room (kb + 2) X.A := xr.room.mono hk.1
  have rm2 : Room (max (kb + 1) kt + 1) X.A := xr.room.mono (by omega)
  have hlen : ρ.length = σ1.length := h.len
  rw [hlen] at q
  generalize hG : gTold n m (bare (mb (seen σ1.length is xs))) = G at q
  cases G with
  | er => exact q.elim
  | ex _ _ _ _ => exact q.elim
  | ok r ρr =>
  have hne : same IsClo (fun x => noExR (bodyF n (m (mOra x (bare (mb (seen σ1.length is xs))))) [.va x])) ≠ .er := fun z => by
    unfold gTold at hG
    rw [z] at hG
    cases hG
  have hrun := same_at hne y ⟨_, _, _, _, _, _, rfl⟩
  have hG' : noExR (bodyF n (m (mOra y (bare (mb (seen σ1.length is xs))))) [.va y]) = .ok r ρr := hrun.trans hG
  have rc : codeAny (model X.prog X.w) X.A (.call (.ref g) ⟨[.ref f], []⟩) (CR CX0 X.stack X.prog X.w H2 s' Q1 E0) s' := by
    refine LamX.run_ofS (k := max (kb + 1) kt) (N := N) (ps := [a]) (us := [.ref f]) (vs := [.ref f]) lk hcd S rm2 I2.env0 (hbd s' [.ref f] I2.kIn rfl) (.cons rfl .nil) rfl fun hr' => ?_
    have acts : Acts (cxOf CX0 X.prog X.w X.K X.mg X.base N x (defScope st) g cdv X.A X.stack s' H2 E0) a y (bare (mb (seen σ1.length is xs))) :=
      acts_of (k := kb) I2 L hf hfn hfr (hbind _ _ _ _ _) (hr'.mono (by omega)) (fun A outer s1 H3 E hgd hr2 => hb A outer s1 H3 E f c' ⟨hr2, hgd.trans xr.gd, rfl, xr.nd⟩ (takes_of rfl rfl rfl rfl)) hN hva hd1 hd2
    have tb := hbody cdv X.A X.stack s' H2 y _ ⟨hr'.mono (by omega), xr.gd, rfl, S.nd⟩ acts
    have hst3 : St X.K X.mg ⟨Hk2, H2, IsTab X.K⟩ ([.va y] ++ List.replicate (N.length - 1) .no) [] (start N [.ref f]) H2 := by
      refine ⟨Hk2, fun _ => none, StI.pad (τ := []) (ρ := [.va y]) (σ := [some (.ref f)]) ⟨rfl, fun _ _ z => z, h3.e1, fun _ _ z _ => z, fun _ _ z => .inl z, h3.live.sub h3.nk fun _ z => z, fun i z sl q1 q2 => ?_, trivial⟩ (N.length - 1)⟩
      cases i with
      | zero => cases q1; cases q2; exact ⟨_, rfl, ry⟩
      | succ i => simp at q1
    obtain ⟨t, ht, hgo⟩ := tb ⟨Hk2, H2, IsTab X.K⟩ _ _ H2 { nx := fun _ H' => Q1 .non H', rt := Q1 } hst3 (by
      show PostS X.K X.mg ⟨Hk2, H2, IsTab X.K⟩ WF [] _ (m (mOra y (bare (mb (seen σ1.length is xs)))) ([.va y] ++ List.replicate (N.length - 1) .no))
      unfold bodyF at hG'
      rw [← hNn] at hG'
      have e0 : ([Vy.Slot.va y] : State).length = 1 := rfl
      rw [e0] at hG'
      cases hz : m (mOra y (bare (mb (seen σ1.length is xs)))) ([.va y] ++ List.replicate (N.length - 1) .no) with
      | er => rw [hz] at hG'; cases hG'
      | ex _ _ _ _ => rw [hz] at hG'; cases hG'
      | ok fl ρ3 =>
        rw [hz] at hG'
        cases fl with
        | bk => cases hG'
        | ct => cases hG'
        | nx =>
          cases hG'
          rintro σ' H' ⟨Hk4, w4, h4⟩
          obtain ⟨w5, h5⟩ := h3.after0 (B' := ⟨Hk2, H2, IsTab X.K⟩) rfl rfl (fun _ z => z) (h4.push (v := .non) (d := .non) .non)
          exact q .non H' ⟨Hk4, w5, h5⟩
        | rt r' =>
          cases hG'
          rintro v σ' H' ⟨Hk4, w4, h4⟩
          obtain ⟨w5, h5⟩ := h3.after0 (B' := ⟨Hk2, H2, IsTab X.K⟩) rfl rfl (fun _ z => z) h4
          exact q v H' ⟨Hk4, w5, h5⟩)
    exact ⟨t, ht.nox, hgo⟩
  refine wpAny_call (codeAny_mono rc fun r s2 hz => ?_)
  match r, hz with
  | .error e, hz => exact (show False from hz).elim
  | .ok (.ret u), hz => exact I2.after hz
  | .ok .next, hz => exact hz.elim
  | .ok .brk, hz => exact hz.elim
  | .ok .cont, hz => exact hz.elim
end
end Vy
namespace Vy
open PySem PySem.Spec PyProof.Rows L2
open Evl (Ex)
/-! ### the order of data -/
def isNo : PyData → Bool
  | .none => true
  | _ => false
theorem isNo_ne {p : PyData} (h : isNo p = false) : p ≠ .none := by rintro rfl; cases h
def gLt (x y : D) : Option Bool := match x.py, y.py with
  | some p, some q => if SeqAt.shaped p && SeqAt.shaped q && PySem.W.alike p q && !isNo p then some (PySem.W.dataLt p q) else none
  | _, _ => none
def orE {α : Type} (a b : Option α) : Option α := match a with
  | some x => some x
  | none => b
def dLtA (x y : D) : Option R := orE (dLt x y) ((gLt x y).map bR)
def dGtA (x y : D) : Option R := orE (dGt x y) ((gLt y x).map bR)
def dLeA (x y : D) : Option R := orE (dLe x y) ((gLt y x).map fun b => bR (!b))
def dGeA (x y : D) : Option R := orE (dGe x y) ((gLt x y).map fun b => bR (!b))
theorem gLt_parts {x y : D} {c : Bool} (h : gLt x y = some c) : ∃ p q, x.py = some p ∧ y.py = some q ∧ SeqAt.shaped p = true ∧ SeqAt.shaped q = true ∧ PySem.W.alike p q = true ∧ p ≠ .none ∧ c = PySem.W.dataLt p q := by
  unfold gLt at h
  split at h
  · rename_i p q h1 h2
    split at h
    · rename_i hz
      simp only [Bool.and_eq_true, Bool.not_eq_true'] at hz
      cases h
      exact ⟨p, q, h1, h2, hz.1.1.1, hz.1.1.2, hz.1.2, isNo_ne hz.2, rfl⟩
    · cases h
  · cases h
def rOrd (K : PySem.W.Frag) (f : PyData → PyData → Bool) : R2 := fun x y H Q => ∃ d e, Dp K H x d ∧ Dp K H y e ∧ SeqAt.shaped d = true ∧ PySem.W.alike d e = true ∧ d ≠ .none ∧ Q (.bl (f d e)) H
section
variable {X : Cx} {k : Nat}
theorem min_room {A : Around} {d e : PyData} (h : SeqAt.shaped d = true) (hu : A.units + 64 < cLine) : A.units + min d.depth e.depth < cLine := by
  have := SeqAt.depth_of_shaped h
  omega
theorem op_ord {op : CmpOp} {f : PyData → PyData → Bool} (hu : X.A.units + 64 < cLine) (hw : ∀ {s : Shared} {E : Value → Shared → Prop} {a b : Value} {da db : PyData} {as bs : List Addr} {Q : Value → Shared → Prop}, Reads s.heap a da as → Reads s.heap b db bs → PySem.W.alike da db = true → da ≠ .none → X.A.units + min da.depth db.depth < cLine → Q (.bool (f da db)) s → wpAny (model X.prog X.w) X.A (compareOp op a b) Q E s) :
    OpR X (compareOp op) (rOrd X.K f) := by
  intro pins s σ H x y v u Q I rx ry h
  obtain ⟨d, e, hd, he, sd, ha, hn, q⟩ := h
  obtain ⟨as, r1⟩ := Dp.reads I d x v hd rx
  obtain ⟨bs, r2⟩ := Dp.reads I e y u he ry
  exact hw r1 r2 ha hn (min_room sd hu) ⟨.bl _, H, I, rfl, q⟩
theorem ord_go {op : CmpOp} {f : PyData → PyData → Bool} (hf : OpR X (compareOp op) (rOrd X.K f)) {B : Bs} {ρ : State} {τ : List (V × R)} {σ : L2.St} {H : Hp} {Q : VK} {v u : V} {x y : R} {p q : PyData} (hs : St X.K X.mg B ρ ((u, y) :: (v, x) :: τ) σ H) (hx : x.d.py = some p) (hy : y.d.py = some q) (sp : SeqAt.shaped p = true) (ha : PySem.W.alike p q = true) (hn : p ≠ .none)
    (k : ∀ z H', St X.K X.mg B ρ ((z, bR (f p q)) :: τ) σ H' → Q z H') : AnyR X (compareOp op) v u H Q := by
  obtain ⟨Hk, w, hI, v1, v2⟩ := st2 hs
  exact ⟨_, hf, p, q, v1.dp hI.e1 hx, v2.dp hI.e1 hy, sp, ha, hn, k _ _ ⟨Hk, w, hI.push (.bl _)⟩⟩
theorem ok_ltA (xr : XR k X) : OpOk X (compareOp .Lt) dLtA := by
  intro B ρ τ σ H Q v u x y r e hs q
  unfold dLtA orE at e
  split at e
  · rename_i z hz; cases e; exact ok_lt B ρ τ σ H Q v u x y _ hz hs q
  · obtain ⟨c, hc, rfl⟩ := Option.map_eq_some_iff.mp e
    obtain ⟨p, p', h1, h2, h3, h4, h5, h6, rfl⟩ := gLt_parts hc
    exact ord_go (op_ord xr.hu (fun a b c d e f => PySem.W.lt_data a b c d e f)) hs h1 h2 h3 h5 h6 q
theorem swap_alike {p q : PyData} (h : PySem.W.alike p q = true) (n : p ≠ .none) : PySem.W.alike q p = true ∧ q ≠ .none := ⟨by rw [PySem.W.alike_comm]; exact h, PySem.W.ne_none_both h n⟩
theorem ok_gtA (xr : XR k X) : OpOk X (compareOp .Gt) dGtA := by
  intro B ρ τ σ H Q v u x y r e hs q
  unfold dGtA orE at e
  split at e
  · rename_i z hz; cases e; exact ok_gt B ρ τ σ H Q v u x y _ hz hs q
  · obtain ⟨c, hc, rfl⟩ := Option.map_eq_some_iff.mp e
    obtain ⟨p, p', h1, h2, h3, h4, h5, h6, rfl⟩ := gLt_parts hc
    obtain ⟨h7, h8⟩ := swap_alike h5 h6
    exact ord_go (f := fun a b => PySem.W.dataLt b a) (op_ord xr.hu (fun a b c d e f => PySem.W.gt_data a b c d e f)) hs h2 h1 h4 h7 h8 q
theorem ok_leA (xr : XR k X) : OpOk X (compareOp .LtE) dLeA := by
  intro B ρ τ σ H Q v u x y r e hs q
  unfold dLeA orE at e
  split at e
  · rename_i z hz; cases e; exact ok_le B ρ τ σ H Q v u x y _ hz hs q
  · obtain ⟨c, hc, rfl⟩ := Option.map_eq_some_iff.mp e
    obtain ⟨p, p', h1, h2, h3, h4, h5, h6, rfl⟩ := gLt_parts hc
    obtain ⟨h7, h8⟩ := swap_alike h5 h6
    exact ord_go (f := fun a b => !PySem.W.dataLt b a) (op_ord xr.hu (fun a b c d e f => PySem.W.le_data a b c d e f)) hs h2 h1 h4 h7 h8 q
theorem ok_geA (xr : XR k X) : OpOk X (compareOp .GtE) dGeA := by
  intro B ρ τ σ H Q v u x y r e hs q
  unfold dGeA orE at e
  split at e
  · rename_i z hz; cases e; exact ok_ge B ρ τ σ H Q v u x y _ hz hs q
  · obtain ⟨c, hc, rfl⟩ := Option.map_eq_some_iff.mp e
    obtain ⟨p, p', h1, h2, h3, h4, h5, h6, rfl⟩ := gLt_parts hc
    exact ord_go (f := fun a b => !PySem.W.dataLt a b) (op_ord xr.hu (fun a b c d e f => PySem.W.ge_data a b c d e f)) hs h1 h2 h3 h5 h6 q
end
/-! x in y, y a list or a tuple -/
def dInT (x y : D) : Option Bool := match x.py, y with
  | some d, .tup ys => match pyL ys with
    | some ds => if SeqAt.shaped d && SeqAt.shaped (.tuple ds) then some (ds.any fun z => PyData.eqv z d) else none
    | none => none
  | _, _ => none
def dInA (x y : D) : Option R := orE (dIn x y) ((dInT x y).map bR)
def dNotInA (x y : D) : Option R := orE (dNotIn x y) ((dInT x y).map fun b => bR (!b))
theorem inT_parts {x y : D} {c : Bool} (h : dInT x y = some c) : ∃ d ds, x.py = some d ∧ y.py = some (.tuple ds) ∧ SeqAt.shaped d = true ∧ SeqAt.shaped (.tuple ds) = true ∧ c = ds.any fun z => PyData.eqv z d := by
  unfold dInT at h
  split at h
  · rename_i d ys hd
    cases hp : pyL ys with
    | none => rw [hp] at h; cases h
    | some ds =>
      rw [hp] at h
      simp only at h
      split at h
      · rename_i hz
        cases h
        obtain ⟨a, b⟩ := Bool.and_eq_true_iff.mp hz
        exact ⟨d, ds, hd, by simp [D.py, hp], a, b, rfl⟩
      · cases h
  · cases h
section
variable {X : Cx} {k : Nat}
def rInT (K : PySem.W.Frag) (f : Bool → Bool) : R2 := fun x y H Q => ∃ d ds, Dp K H x d ∧ Dp K H y (.tuple ds) ∧ SeqAt.shaped d = true ∧ SeqAt.shaped (.tuple ds) = true ∧ Q (.bl (f (ds.any fun z => PyData.eqv z d))) H
theorem op_inT (hu : X.A.units + 65 < cLine) : OpR X (compareOp .In) (rInT X.K id) := by
  intro pins s σ H x y v u Q I rx ry h
  obtain ⟨d, ds, hd, he, sd, se, q⟩ := h
  obtain ⟨as, r1⟩ := Dp.reads I d x v hd rx
  obtain ⟨bs, r2⟩ := Dp.reads I (.tuple ds) y u he ry
  exact SeqAt.in_tuple_reads r2 r1 (SeqAt.canLay_of_shaped se) (SeqAt.canLay_of_shaped sd) (room_in_shaped sd hu) ⟨.bl _, H, I, rfl, q⟩
theorem op_notInT (hu : X.A.units + 65 < cLine) : OpR X (compareOp .NotIn) (rInT X.K not) := by
  intro pins s σ H x y v u Q I rx ry h
  obtain ⟨d, ds, hd, he, sd, se, q⟩ := h
  obtain ⟨as, r1⟩ := Dp.reads I d x v hd rx
  obtain ⟨bs, r2⟩ := Dp.reads I (.tuple ds) y u he ry
  exact SeqAt.notIn_tuple_reads r2 r1 (SeqAt.canLay_of_shaped se) (SeqAt.canLay_of_shaped sd) (room_in_shaped sd hu) ⟨.bl _, H, I, rfl, q⟩
theorem ok_inA (xr : XR k X) : OpOk X (compareOp .In) dInA := by
  intro B ρ τ σ H Q v u x y r e hs q
  unfold dInA orE at e
  split at e
  · rename_i z hz; cases e; exact ok_in xr B ρ τ σ H Q v u x y _ hz hs q
  · obtain ⟨c, hc, rfl⟩ := Option.map_eq_some_iff.mp e
    obtain ⟨d, ds, h1, h2, h3, h4, rfl⟩ := inT_parts hc
    obtain ⟨Hk, w, hI, v1, v2⟩ := st2 hs
    have hu := xr.hu2
    exact ⟨_, op_inT (by omega), d, ds, v1.dp hI.e1 h1, v2.dp hI.e1 h2, h3, h4, q _ _ ⟨Hk, w, hI.push (.bl _)⟩⟩
theorem ok_notInA (xr : XR k X) : OpOk X (compareOp .NotIn) dNotInA := by
  intro B ρ τ σ H Q v u x y r e hs q
  unfold dNotInA orE at e
  split at e
  · rename_i z hz; cases e; exact ok_notIn xr B ρ τ σ H Q v u x y _ hz hs q
  · obtain ⟨c, hc, rfl⟩ := Option.map_eq_some_iff.mp e
    obtain ⟨d, ds, h1, h2, h3, h4, rfl⟩ := inT_parts hc
    obtain ⟨Hk, w, hI, v1, v2⟩ := st2 hs
    have hu := xr.hu2
    exact ⟨_, op_notInT (by omega), d, ds, v1.dp hI.e1 h1, v2.dp hI.e1 h2, h3, h4, q _ _ ⟨Hk, w, hI.push (.bl _)⟩⟩
end
/-! min(xs), max(xs) of data: the first best -/
mutual
theorem py_inj : ∀ {x y : D} {p : PyData}, x.py = some p → y.py = some p → x = y
  | .non, y, p, h1, h2 => by
    simp only [D.py, Option.some.injEq] at h1; subst h1
    cases y <;> simp [D.py] at h2 <;> rfl
  | .bl b, y, p, h1, h2 => by
    simp only [D.py, Option.some.injEq] at h1; subst h1
    cases y <;> simp [D.py] at h2; rw [h2]
  | .int b, y, p, h1, h2 => by
    simp only [D.py, Option.some.injEq] at h1; subst h1
    cases y <;> simp [D.py] at h2; rw [h2]
  | .str b, y, p, h1, h2 => by
    simp only [D.py, Option.some.injEq] at h1; subst h1
    cases y <;> simp [D.py] at h2; rw [h2]
  | .tup xs, y, p, h1, h2 => by
    simp only [D.py, Option.map_eq_some_iff] at h1
    obtain ⟨ps, h1, rfl⟩ := h1
    cases y <;> simp [D.py] at h2
    rw [pyL_inj h1 h2]
  | .lst xs, y, p, h1, h2 => by
    simp only [D.py, Option.map_eq_some_iff] at h1
    obtain ⟨ps, h1, rfl⟩ := h1
    cases y <;> simp [D.py] at h2
    rw [pyL_inj h1 h2]
  | .scr _, _, _, h1, _ => by simp [D.py] at h1
  | .obj _ _ _, _, _, h1, _ => by simp [D.py] at h1
  | .fn _, _, _, h1, _ => by simp [D.py] at h1
  | .dct _ _, _, _, h1, _ => by simp [D.py] at h1
  | .adr _, _, _, h1, _ => by simp [D.py] at h1
  | .exc _ _ _ _, _, _, h1, _ => by simp [D.py] at h1
  | .clo _ _ _ _ _ _, _, _, h1, _ => by simp [D.py] at h1
theorem pyL_inj : ∀ {xs ys : List D} {ps : List PyData}, pyL xs = some ps → pyL ys = some ps → xs = ys
  | [], ys, ps, h1, h2 => by
    simp only [pyL, Option.some.injEq] at h1; subst h1
    cases ys with
    | nil => rfl
    | cons y ys =>
      simp only [pyL] at h2
      split at h2 <;> simp at h2
  | x :: xs, ys, ps, h1, h2 => by
    simp only [pyL] at h1
    split at h1
    · rename_i p q a b
      simp only [Option.some.injEq] at h1; subst h1
      cases ys with
      | nil => simp [pyL] at h2
      | cons y ys =>
        simp only [pyL] at h2
        split at h2
        · rename_i p' q' a' b'
          simp only [Option.some.injEq, List.cons.injEq] at h2
          obtain ⟨rfl, rfl⟩ := h2
          rw [py_inj a a', pyL_inj b b']
        · cases h2
    · cases h1
end
theorem pyL_at : ∀ {xs : List D} {ps : List PyData}, pyL xs = some ps → xs.length = ps.length ∧ ∀ (i : Nat) (d : D), xs[i]? = some d → ∃ p : PyData, ps[i]? = some p ∧ d.py = some p
  | [], ps, h => by simp only [pyL, Option.some.injEq] at h; subst h; simp
  | x :: xs, ps, h => by
    simp only [pyL] at h
    split at h
    · rename_i p q a b
      simp only [Option.some.injEq] at h; subst h
      obtain ⟨h1, h2⟩ := pyL_at b
      refine ⟨by simp [h1], fun i d hd => ?_⟩
      cases i with
      | zero => simp at hd; subst hd; exact ⟨p, rfl, a⟩
      | succ i => exact by simpa using h2 i d (by simpa using hd)
    · cases h
def okAll (ps : List PyData) : Bool := ps.all fun p => !isNo p && p.canLay0 && ps.all fun q => PySem.W.alike p q
theorem okAll_alike {ps : List PyData} (h : okAll ps = true) : PySem.W.AlikeAll ps ∧ ∀ p ∈ ps, p.canLay0 = true := by
  unfold okAll at h
  simp only [List.all_eq_true, Bool.and_eq_true, Bool.not_eq_true'] at h
  exact ⟨⟨fun x hx y hy => (h x hx).2 y hy, fun x hx => isNo_ne (h x hx).1.1⟩, fun p hp => (h p hp).1.2⟩
mutual
def dOf : PyData → D
  | .none => .non
  | .bool b => .bl b
  | .int i => .int i
  | .str x => .str x
  | .list ps => .lst (dOfL ps)
  | .tuple ps => .tup (dOfL ps)
  | .dict _ => .non
def dOfL : List PyData → List D
  | [] => []
  | p :: ps => dOf p :: dOfL ps
end
mutual
theorem dOf_py : ∀ {x : D} {p : PyData}, x.py = some p → dOf p = x
  | .non, p, h => by simp only [D.py, Option.some.injEq] at h; subst h; rfl
  | .bl b, p, h => by simp only [D.py, Option.some.injEq] at h; subst h; rfl
  | .int b, p, h => by simp only [D.py, Option.some.injEq] at h; subst h; rfl
  | .str b, p, h => by simp only [D.py, Option.some.injEq] at h; subst h; rfl
  | .tup xs, p, h => by
    simp only [D.py, Option.map_eq_some_iff] at h
    obtain ⟨ps, h, rfl⟩ := h
    simp only [dOf, dOfL_py h]
  | .lst xs, p, h => by
    simp only [D.py, Option.map_eq_some_iff] at h
    obtain ⟨ps, h, rfl⟩ := h
    simp only [dOf, dOfL_py h]
  | .scr _, _, h => by simp [D.py] at h
  | .obj _ _ _, _, h => by simp [D.py] at h
  | .fn _, _, h => by simp [D.py] at h
  | .dct _ _, _, h => by simp [D.py] at h
  | .adr _, _, h => by simp [D.py] at h
  | .exc _ _ _ _, _, h => by simp [D.py] at h
  | .clo _ _ _ _ _ _, _, h => by simp [D.py] at h
theorem dOfL_py : ∀ {xs : List D} {ps : List PyData}, pyL xs = some ps → dOfL ps = xs
  | [], ps, h => by simp only [pyL, Option.some.injEq] at h; subst h; rfl
  | x :: xs, ps, h => by
    simp only [pyL] at h
    split at h
    · rename_i p q a b
      simp only [Option.some.injEq] at h; subst h
      simp only [dOfL, dOf_py a, dOfL_py b]
    · cases h
end
def bestG (f : PyData → List PyData → PyData) (ds : List D) : Option R := match pyL ds with
  | some (p :: ps) => if okAll (p :: ps) && decide (PyData.depthAll (p :: ps) ≤ 64) then some (.cl (dOf (f p ps))) else none
  | _ => none
def seqG (f : PyData → List PyData → PyData) : D → Option R
  | .lst ds => bestG f ds
  | .tup ds => bestG f ds
  | _ => none
def dMinA (d : D) : Option R := orE (dMinL d) (seqG PySem.W.minD d)
def dMaxA (d : D) : Option R := orE (dMaxL d) (seqG PySem.W.maxD d)
/-- min or max of a list or a tuple of data -/
def rBest (K : PySem.W.Frag) (f : PyData → List PyData → PyData) : List V → Hp → VK → Prop := fun xs H Q => ∃ (a : Addr) (vs : List V) (p : PyData) (ps : List PyData), xs = [.ref a] ∧ (SqL K H a vs ∨ SqT K H a vs) ∧ DpAll K H vs (p :: ps) ∧ okAll (p :: ps) = true ∧ PyData.depthAll (p :: ps) ≤ 64 ∧
  ∀ (i : Nat) (v : V), vs[i]? = some v → (p :: ps)[i]? = some (f p ps) → Q v H
section
variable {X : Cx} {k : Nat}
theorem vals_at : ∀ {vs : List V} {us : List Value} {i : Nat} {u : Value}, Vals vs us → us[i]? = some u → ∃ v, vs[i]? = some v ∧ L2.RelV v u
  | _, _, _, _, .nil, h => by simp at h
  | v :: vs, _ :: us, 0, u, .cons r t, h => by simp at h; subst h; exact ⟨v, rfl, r⟩
  | v :: vs, _ :: us, i + 1, u, .cons r t, h => by
    obtain ⟨v', a, b⟩ := vals_at (i := i) t (by simpa using h)
    exact ⟨v', by simpa using a, b⟩
theorem minD_mem (x : PyData) (xs : List PyData) : PySem.W.minD x xs ∈ x :: xs := by
  unfold PySem.W.minD
  have go : ∀ (l : List PyData) (a : PyData), a ∈ x :: xs → (∀ y ∈ l, y ∈ x :: xs) → l.foldl (fun a y => if PySem.W.dataLt y a then y else a) a ∈ x :: xs := by
    intro l
    induction l with
    | nil => intro a h _; exact h
    | cons y l ih =>
      intro a h hl
      refine ih _ ?_ fun z hz => hl z (List.mem_cons_of_mem _ hz)
      by_cases c : PySem.W.dataLt y a = true
      · simp only [c, if_true]; exact hl y List.mem_cons_self
      · simp only [c, if_false, Bool.false_eq_true]; exact h
  exact go xs x List.mem_cons_self fun y hy => List.mem_cons_of_mem _ hy
theorem maxD_mem (x : PyData) (xs : List PyData) : PySem.W.maxD x xs ∈ x :: xs := by
  unfold PySem.W.maxD
  have go : ∀ (l : List PyData) (a : PyData), a ∈ x :: xs → (∀ y ∈ l, y ∈ x :: xs) → l.foldl (fun a y => if PySem.W.dataLt a y then y else a) a ∈ x :: xs := by
    intro l
    induction l with
    | nil => intro a h _; exact h
    | cons y l ih =>
      intro a h hl
      refine ih _ ?_ fun z hz => hl z (List.mem_cons_of_mem _ hz)
      by_cases c : PySem.W.dataLt a y = true
      · simp only [c, if_true]; exact hl y List.mem_cons_self
      · simp only [c, if_false, Bool.false_eq_true]; exact h
  exact go xs x List.mem_cons_self fun y hy => List.mem_cons_of_mem _ hy
theorem cr_best {id : String} {f : PyData → List PyData → PyData} (hu : X.A.units + 200 < cLine) (hm : ∀ x xs, f x xs ∈ x :: xs)
    (hL : ∀ {s : Shared} {E : Value → Shared → Prop} {l : Addr} {vs : Array Value} {x : PyData} {xs : List PyData} {as : List Addr} {Q : Value → Shared → Prop}, s.heap.IsList l vs → ReadsAll s.heap vs.toList (x :: xs) as → PySem.W.AlikeAll (x :: xs) → X.A.units + 1 + PyData.depthAll (x :: xs) < cLine →
      (∀ (i : Nat) v h' tk bs, vs[i]? = some v → Reads h' v (f x xs) bs → (∀ b o, s.heap.get? b = some o → h'.get? b = some o) → Q v { s with heap := h', toks := tk }) → wpAny (model X.prog X.w) X.A (call (.builtin id) [.ref l]) Q E s)
    (hT : ∀ {s : Shared} {E : Value → Shared → Prop} {l : Addr} {vs : Array Value} {x : PyData} {xs : List PyData} {as : List Addr} {Q : Value → Shared → Prop}, s.heap.IsTuple l vs → ReadsAll s.heap vs.toList (x :: xs) as → PySem.W.AlikeAll (x :: xs) → X.A.units + 1 + PyData.depthAll (x :: xs) < cLine →
      (∀ (i : Nat) v h' tk bs, vs[i]? = some v → Reads h' v (f x xs) bs → (∀ b o, s.heap.get? b = some o → h'.get? b = some o) → Q v { s with heap := h', toks := tk }) → wpAny (model X.prog X.w) X.A (call (.builtin id) [.ref l]) Q E s) :
    CallR X (.builtin id) (rBest X.K f) := by
  intro pins s σ H xs us Q I r h
  obtain ⟨a, vs, p, ps, rfl, hs, hd, hok, hdep, q⟩ := h
  rw [Vals.ref1 r]
  obtain ⟨ha, hlay⟩ := okAll_alike hok
  have room : X.A.units + 1 + PyData.depthAll (p :: ps) < cLine := by omega
  have fin : ∀ {its : List Value}, Vals vs its → ∀ (i : Nat) v h' tk bs, its.toArray[i]? = some v → Reads h' v (f p ps) bs → (∀ b o, s.heap.get? b = some o → h'.get? b = some o) → EP X pins σ Q v { s with heap := h', toks := tk } := by
    intro its rv i v h' tk bs hi hr hk
    have hi : its[i]? = some v := by simpa using hi
    obtain ⟨y, hy, ry⟩ := vals_at rv hi
    refine ⟨y, H, I.kept hk, ry, q i y hy ?_⟩
    obtain ⟨as, ra⟩ := Dp.readsAll I (p :: ps) vs its hd rv
    have hlayA : PyData.canLayAll0 (p :: ps) = true := by
      have : ∀ {l : List PyData}, (∀ x ∈ l, x.canLay0 = true) → PyData.canLayAll0 l = true := by
        intro l
        induction l with
        | nil => intro _; rfl
        | cons z l ih => intro h; simp only [PyData.canLayAll0, h z List.mem_cons_self, ih fun w hw => h w (List.mem_cons_of_mem _ hw), Bool.and_self]
      exact this hlay
    have hmap := SeqAt.readsAll_map (p :: ps) its as hlayA ra
    obtain ⟨bs0, r0, _, hin, _⟩ := PySem.W.readsAll_at ra i v hi
    have e1 : SeqAt.readOf h' v = f p ps := SeqAt.readOf_eq (hlay _ (hm p ps)) hr
    have e2 : SeqAt.readOf h' v = (p :: ps).getD i .none := SeqAt.readOf_eq (hlay _ hin) (Reads.keeps hk r0)
    have hlt : i < (p :: ps).length := by rw [← hmap, List.length_map]; exact (List.getElem?_eq_some_iff.mp hi).1
    rw [← e1, e2, List.getD_eq_getElem?_getD, List.getElem?_eq_getElem hlt]
    rfl
  rcases hs with hs | hs
  · obtain ⟨its, rv, hl, _⟩ := I.list hs
    obtain ⟨as, ra⟩ := Dp.readsAll I (p :: ps) vs its hd rv
    exact hL hl.isList (by simpa using ra) ha room (fin rv)
  · obtain ⟨its, rv, hl, _⟩ := I.tuple hs
    obtain ⟨as, ra⟩ := Dp.readsAll I (p :: ps) vs its hd rv
    exact hT hl (by simpa using ra) ha room (fin rv)
theorem cr_minD (hc : X.calm = true) (hu : X.A.units + 200 < cLine) : ∀ (pins : List (Addr × Obj)) (s : Shared) (σ : L2.St) (H : Hp) (xs : List V) (us : List Value) (Q : VK), Inv X pins σ H s → Vals xs us → rBest X.K PySem.W.minD xs H Q → wpAny (model X.prog X.w) X.A (call (.builtin "min") us) (EP X pins σ Q) X.xe s :=
  fun pins s σ H xs us Q I => cr_best hu minD_mem (fun hl hr ha hu k => PySem.W.min_list_data (I.ok.hd hc) hl hr ha hu k) (fun hl hr ha hu k => PySem.W.min_tuple_data (I.ok.hd hc) hl hr ha hu k) pins s σ H xs us Q I
theorem cr_maxD (hc : X.calm = true) (hu : X.A.units + 200 < cLine) : ∀ (pins : List (Addr × Obj)) (s : Shared) (σ : L2.St) (H : Hp) (xs : List V) (us : List Value) (Q : VK), Inv X pins σ H s → Vals xs us → rBest X.K PySem.W.maxD xs H Q → wpAny (model X.prog X.w) X.A (call (.builtin "max") us) (EP X pins σ Q) X.xe s :=
  fun pins s σ H xs us Q I => cr_best hu maxD_mem (fun hl hr ha hu k => PySem.W.max_list_data (I.ok.hd hc) hl hr ha hu k) (fun hl hr ha hu k => PySem.W.max_tuple_data (I.ok.hd hc) hl hr ha hu k) pins s σ H xs us Q I
theorem repL_dp {K : PySem.W.Frag} {mg : Str → Option Value} {Hk H : Hp} (e : Ex Hk H) : ∀ {ds : List D} {vs : List V} {ps : List PyData}, RepL K mg Hk vs ds → pyL ds = some ps → DpAll K H vs ps
  | [], _, ps, .nil, h => by simp only [pyL, Option.some.injEq] at h; subst h; exact .nil
  | d :: ds, _, ps, .cons r t, h => by
    simp only [pyL] at h
    split at h
    · rename_i p q a b
      simp only [Option.some.injEq] at h; subst h
      exact .cons (View.dp (.inl r) e a) (repL_dp e t b)
    · cases h
theorem best_go {id : String} {f : PyData → List PyData → PyData} (hf : CallR X (.builtin id) (rBest X.K f)) : FnV X (.builtin id) (seqG f) := by
  intro B ρ τ σ H Q v d r e ⟨Hk, w, hI, vw⟩ q
  have go : ∀ ds (a : Addr) (vs : List V), bestG f ds = some r → v = .ref a → (SqL X.K H a vs ∨ SqT X.K H a vs) → RepL X.K X.mg Hk vs ds → AnyC X (.builtin id) [v] H Q := by
    intro ds a vs e hv hs hr
    unfold bestG at e
    split at e
    · rename_i p ps hp
      split at e
      · rename_i hz
        obtain ⟨z1, z2⟩ := Bool.and_eq_true_iff.mp hz
        cases e
        refine ⟨_, hf, a, vs, p, ps, by rw [hv], hs, repL_dp hI.e1 hr hp, z1, of_decide_eq_true z2, fun i y hy hi => ?_⟩
        obtain ⟨d', hd', rd'⟩ := hr.getV hy
        obtain ⟨_, h2⟩ := pyL_at hp
        obtain ⟨p', e1, e2⟩ := h2 i d' hd'
        rw [hi] at e1; cases e1
        rw [dOf_py e2] at q
        exact q y H ⟨Hk, w, hI.push rd'⟩
      · cases e
    · cases e
  cases d <;> simp only [seqG, reduceCtorEq] at e
  · obtain ⟨a, xs, rfl, hx, ra⟩ := vw.tup hI.e1
    exact go _ a xs e rfl (.inr hx) ra
  · obtain ⟨a, xs, rfl, hx, ra⟩ := vw.lst hI.e1
    exact go _ a xs e rfl (.inl (SqL.of hx)) ra
theorem fv_minA (xr : XR k X) : FnV X (.builtin "min") dMinA := by
  intro B ρ τ σ H Q v d r e hs q
  unfold dMinA orE at e
  split at e
  · rename_i z hz; cases e; exact fv_min xr.calm B ρ τ σ H Q v d _ hz hs q
  · exact best_go (cr_minD xr.calm xr.hu2) B ρ τ σ H Q v d r e hs q
theorem fv_maxA (xr : XR k X) : FnV X (.builtin "max") dMaxA := by
  intro B ρ τ σ H Q v d r e hs q
  unfold dMaxA orE at e
  split at e
  · rename_i z hz; cases e; exact fv_max xr.calm B ρ τ σ H Q v d _ hz hs q
  · exact best_go (cr_maxD xr.calm xr.hu2) B ρ τ σ H Q v d r e hs q
end
end Vy
namespace Vy
open PySem PySem.Spec PyProof.Rows L2
open Evl (Ex)
/-! ### in the suite of an except clause -/
open Classical in
noncomputable def mIsX (i : Nat) (y : D) (o : Option Bool) : M R := fun ρ => if ρ[i]? = some (.va y) then (match o with
  | some b => .ok (.cl (.bl b)) ρ
  | none => .er) else .er
open Classical in
noncomputable def mFx (i : Nat) (y : D) (f : Str) (ok : Bool) : M R := fun ρ => if ρ[i]? = some (.va y) ∧ ok = true then (match y with
  | .exc _ _ n z => if n = f then .ok (.cl z) ρ else .er
  | _ => .er) else .er
section
variable {X : Cx} {a : Addr} {oe : Obj} {cls : Value} {d : Option Addr} {pn : List (Addr × Obj)} {c : Str} {y : D} {n T f : Str} {i : Nat} {p p1 p2 pos : Pos}
/-- isinstance(e, t), e what the suite holds -/
def rIsX (K : PySem.W.Frag) (C : Addr) (d : Option Addr) (a : Addr) : List V → Hp → VK → Prop := fun xs H Q => ∃ (t : V) (tu : Value) (b : Bool), xs = [.ref a, t] ∧ (∀ u, L2.RelV t u → u = tu) ∧ (∀ dd, d = some dd → ∃ o, H dd = some o) ∧ PySem.W.kitOne K (.ref C) tu = some b ∧ Q (.bl b) H
theorem call_isX {C : Addr} (E : ExcC X.K C) (hz : Zc (.ref C) d oe) (hv : ∃ vs, oe.data = .fields vs) : CallR (X.suite a ((a, oe) :: pn)) (.builtin "isinstance") (rIsX X.K C d a) := by
  intro pins s σ H xs us Q I r h
  obtain ⟨t, tu, b, rfl, ht, hd, e, q⟩ := h
  cases r with
  | cons rx rr =>
  cases rr with
  | cons rt rr =>
  cases rr
  cases rx
  have et := ht _ rt
  subst et
  obtain ⟨hget, _⟩ := I.pin (a, oe) (List.mem_append.mpr (.inl List.mem_cons_self))
  obtain ⟨vs, hv⟩ := hv
  obtain ⟨cd, hcl, _⟩ := PySem.W.any_some E.hd
  have hcl' : (PySem.W.clsIn X.K C).isSome = true := by rw [hcl]; rfl
  have J : ∃ od, PySem.W.InstAt s.heap a oe C od := by
    cases hdd : d with
    | none =>
      refine ⟨none, hget, hz.1, by unfold PySem.W.notCls; rw [hv] <;> rfl, ?_⟩
      rw [hz.2, hdd]
      trivial
    | some dd =>
      obtain ⟨o, ho⟩ := hd dd hdd
      obtain ⟨u, hu⟩ := objOk_get (I.hok dd o ho)
      exact ⟨some u, hget, hz.1, by unfold PySem.W.notCls; rw [hv] <;> rfl, by rw [hz.2, hdd]; exact hu⟩
  obtain ⟨od, J⟩ := J
  exact PySem.W.kia_one (PySem.W.kitx_exc hcl' E.hg E.hk E.hs E.ha E.hn E.ht E.hm) I.kIn J e (fun z => nomatch z) fun tk => ⟨.bl b, H, I.kept (t' := tk) fun _ _ z => z, rfl, q⟩
theorem tr_isX0 {o : Option Bool} {C : Addr} {tv : V} {tu : Value} (hx : XAt X a cls d c y) (hz : Zc cls d oe) (hv : ∃ vs, oe.data = .fields vs) (hC : X.mg c = some (.ref C)) (hT : PE (X.suite a ((a, oe) :: pn)) (.Name T p2) (tC tv)) (hrel : ∀ u, L2.RelV tv u → u = tu)
    (hk : ∀ b, o = some b → ExcC X.K C ∧ PySem.W.kitOne X.K (.ref C) tu = some b) (hg : Gl X "isinstance") (hm : X.mg "isinstance" = none) (hi : X.N[i]? = some n) (hvis : Vis X.env.scope n) (hdn : (n == ("__debug__" : Str)) = false) (hcn : (n == ("__classdict__" : Str)) = false)
    (he : starEach [.Name n p1, .Name T p2] X.env = (false, eval (.Name n p1) X.env) :: starEach [.Name T p2] X.env) (he2 : starEach [.Name T p2] X.env = (false, eval (.Name T p2) X.env) :: starEach [] X.env) (hpl : (backTo pos (starEach [.Name T p2] X.env)).any (·.1) = false) :
    TrE (X.suite a ((a, oe) :: pn)) WF (.Call (.Name "isinstance" p) [.Name n p1, .Name T p2] [] pos) (mIsX i y o) := by
  intro B ρ τ σ H Q ⟨Hk, w, h⟩ q
  unfold mIsX at q
  by_cases h0 : ρ[i]? = some (.va y)
  case neg => rw [if_neg h0] at q; exact q.elim
  rw [if_pos h0] at q
  cases o with
  | none => exact q.elim
  | some b =>
    obtain ⟨E, hkit⟩ := hk b rfl
    obtain ⟨C', hc1, hc2⟩ := hx.cls
    rw [hC] at hc2
    cases hc2
    subst hc1
    obtain ⟨v, hv0, rv⟩ := h.val h0
    have q : PostE X.K X.mg B WF τ σ Q (.ok (.cl (.bl b)) ρ) := q
    have ev : v = .ref a ∧ ∀ dd, d = some dd → ∃ o, H dd = some o := by
      rcases hx.dat with ⟨e1, e2⟩ | ⟨dd, nn, z, e1, e2⟩
      · subst e2; cases rv; exact ⟨rfl, fun dd e => by rw [e1] at e; cases e⟩
      · subst e2
        cases rv with
        | exc hd _ => exact ⟨rfl, fun dd' e => by rw [e1] at e; cases e; exact ⟨_, h.e1 _ _ hd⟩⟩
    obtain ⟨rfl, hdd⟩ := ev
    exact ⟨_, pe_callB (call_isX E hz hv) hg hm boot_isinstance (pa_cons (pe_var (i := i) hi hvis hdn hcn) (pa_cons hT pa_nil he2) he) (by decide) (by decide) he hpl, _, hv0, tv, tu, b, rfl, hrel, hdd, hkit, q _ _ ⟨Hk, w, h.push (.bl b)⟩⟩
/-- t an own class -/
theorem tr_isX {o : Option Bool} (hx : XAt X a cls d c y) (hz : Zc cls d oe) (hv : ∃ vs, oe.data = .fields vs) (hTm : ∃ CT : Addr, X.mg T = some (.ref CT)) (hk : ∀ b C CT, o = some b → X.mg c = some (.ref C) → X.mg T = some (.ref CT) → ExcC X.K C ∧ PySem.W.kitOne X.K (.ref C) (.ref CT) = some b)
    (hg : Gl X "isinstance") (hm : X.mg "isinstance" = none) (hgT : Gl X T := by rfl) (hi : X.N[i]? = some n := by rfl) (hvis : Vis X.env.scope n := by first | exact Or.inl rfl | exact Or.inr (Or.inl rfl) | exact Or.inr (Or.inr rfl)) (hdn : (n == ("__debug__" : Str)) = false := by decide) (hcn : (n == ("__classdict__" : Str)) = false := by decide) (hdT : (T == ("__debug__" : Str)) = false := by decide)
    (he : starEach [.Name n p1, .Name T p2] X.env = (false, eval (.Name n p1) X.env) :: starEach [.Name T p2] X.env := by rfl) (he2 : starEach [.Name T p2] X.env = (false, eval (.Name T p2) X.env) :: starEach [] X.env := by rfl) (hpl : (backTo pos (starEach [.Name T p2] X.env)).any (·.1) = false := by rfl) :
    TrE (X.suite a ((a, oe) :: pn)) WF (.Call (.Name "isinstance" p) [.Name n p1, .Name T p2] [] pos) (mIsX i y o) := by
  obtain ⟨C, _, hC⟩ := hx.cls
  obtain ⟨CT, hT⟩ := hTm
  exact tr_isX0 hx hz hv hC (pe_glob (X := X.suite a ((a, oe) :: pn)) hgT hT (v := .ref CT) rfl hdT) (fun u r => r) (fun b e => hk b C CT e hC hT) hg hm hi hvis hdn hcn he he2 hpl
/-- t a built-in class -/
theorem tr_isXb {o : Option Bool} {TT : String} (hx : XAt X a cls d c y) (hz : Zc cls d oe) (hv : ∃ vs, oe.data = .fields vs) (hTm : X.mg T = none) (hTb : bootBuiltins T = some (.type TT)) (hk : ∀ b C, o = some b → X.mg c = some (.ref C) → ExcC X.K C ∧ PySem.W.kitOne X.K (.ref C) (.type TT) = some b)
    (hg : Gl X "isinstance") (hm : X.mg "isinstance" = none) (hgT : Gl X T := by rfl) (hi : X.N[i]? = some n := by rfl) (hvis : Vis X.env.scope n := by first | exact Or.inl rfl | exact Or.inr (Or.inl rfl) | exact Or.inr (Or.inr rfl)) (hdn : (n == ("__debug__" : Str)) = false := by decide) (hcn : (n == ("__classdict__" : Str)) = false := by decide) (hdT : (T == ("__debug__" : Str)) = false := by decide) (hnT : T ≠ "__name__" := by decide)
    (he : starEach [.Name n p1, .Name T p2] X.env = (false, eval (.Name n p1) X.env) :: starEach [.Name T p2] X.env := by rfl) (he2 : starEach [.Name T p2] X.env = (false, eval (.Name T p2) X.env) :: starEach [] X.env := by rfl) (hpl : (backTo pos (starEach [.Name T p2] X.env)).any (·.1) = false := by rfl) :
    TrE (X.suite a ((a, oe) :: pn)) WF (.Call (.Name "isinstance" p) [.Name n p1, .Name T p2] [] pos) (mIsX i y o) := by
  obtain ⟨C, _, hC⟩ := hx.cls
  exact tr_isX0 hx hz hv hC (pe_bltn (X := X.suite a ((a, oe) :: pn)) hgT hTm hTb (v := .ty TT) rfl hnT hdT) (fun u r => r) (fun b e => hk b C e hC) hg hm hi hvis hdn hcn he he2 hpl
/-- e.f -/
theorem tr_fldX {ok : Bool} (hx : XAt X a cls d c y) (hz : Zc cls d oe) (hv : ∃ vs, oe.data = .fields vs) (hk : ∀ C, ok = true → X.mg c = some (.ref C) → XfC X.K C ∧ PySem.W.findIn X.K (.ref C) f = some none) (hi : X.N[i]? = some n := by rfl) (hvis : Vis X.env.scope n := by first | exact Or.inl rfl | exact Or.inr (Or.inl rfl) | exact Or.inr (Or.inr rfl)) (hdn : (n == ("__debug__" : Str)) = false := by decide) (hcn : (n == ("__classdict__" : Str)) = false := by decide)
    (hb : attributeBase (.Name n p1) f X.env (eval (.Name n p1) X.env) = eval (.Name n p1) X.env := by rfl) : TrE (X.suite a ((a, oe) :: pn)) WF (.Attribute (.Name n p1) f pos) (mFx i y f ok) := by
  intro B ρ τ σ H Q ⟨Hk, w, h⟩ q
  unfold mFx at q
  by_cases h0 : ρ[i]? = some (.va y) ∧ ok = true
  case neg => rw [if_neg h0] at q; exact q.elim
  rw [if_pos h0] at q
  obtain ⟨C, hc1, hc2⟩ := hx.cls
  subst hc1
  obtain ⟨T1, T2⟩ := hk C h0.2 hc2
  obtain ⟨v, hv0, rv⟩ := h.val h0.1
  rcases hx.dat with ⟨e1, e2⟩ | ⟨dd, nn, z, e1, e2⟩
  · subst e2; exact q.elim
  · subst e2
    by_cases hn : nn = f
    case neg => simp only [if_neg hn] at q; exact q.elim
    subst hn
    simp only [if_true] at q
    cases rv with
    | @exc _ _ _ v0 _ hd rz =>
      exact ⟨_, pe_xf (X := X) T1 T2 hz hv (pe_var (X := X.suite a ((a, oe) :: pn)) (i := i) hi hvis hdn hcn) hb, _, hv0, rfl, rfl, dd, _, v0, e1, h.e1 _ _ hd, by simp [List.lookup], q v0 H ⟨Hk, w, h.push rz⟩⟩
end
/-! ### defs as values -/
section
variable {X : Cx} {W : WX} {x : Str} {e : Expr} {es : List Expr} {ms : M (List R)} {i k k' : Nat} {p pos : Pos}
theorem tr_globF (hm : ∃ f : Addr, X.mg x = some (.ref f)) (hg : Gl X x := by rfl) (hd : (x == ("__debug__" : Str)) = false := by decide) : TrE X W (.Name x pos) (mC (.fn x)) := by
  obtain ⟨f, hm⟩ := hm
  exact fun B ρ τ σ H Q ⟨Hk, w, h⟩ q => ⟨_, pe_glob hg hm (v := .ref f) rfl hd, q _ H ⟨Hk, w, h.push (.fn hm)⟩⟩
theorem Cal.mg {P : Program} {w : World} {K : PySem.W.Frag} {mg : Str → Option Value} {base : Heap} {x : Str} {n k : Nat} {F : Fn} (C : Cal P w K mg base x n k F) : ∃ f : Addr, mg x = some (.ref f) := by
  obtain ⟨f, _, _, h, _⟩ := C
  exact ⟨f, h⟩
/-- a name that holds a def of the table -/
def mCallV (i : Nat) (tab : List (Str × Fn)) (ms : M (List R)) : M R := mPeek i >>= fun d => match d with
  | .fn x => match tab.lookup x with
    | some F => ms >>= fun rs => liftF F (rs.map fun r => .va r.d)
    | none => M.fail
  | _ => M.fail
theorem tr_callV {tab : List (Str × Fn)} (C : ∀ y F, tab.lookup y = some F → Cal X.prog X.w X.K X.mg X.base y (es.length + 1) k F) (xr : XR k' X) (pw : ∀ σ, PassesAt (L2.CX X.prog X.w) X σ (WE W σ)) (ha : TrA X W (e :: es) ms) (hl : LenA ms (es.length + 1)) (hk : k ≤ k' := by decide)
    (hN : X.N[i]? = some x := by rfl) (hv : Vis X.env.scope x := by first | exact Or.inl rfl | exact Or.inr (Or.inl rfl) | exact Or.inr (Or.inr rfl)) (hd : (x == ("__debug__" : Str)) = false := by decide) (hcd : (x == ("__classdict__" : Str)) = false := by decide)
    (he : starEach (e :: es) X.env = (false, eval e X.env) :: starEach es X.env := by rfl) (hpl : (backTo pos (starEach es X.env)).any (·.1) = false := by rfl) : TrE X W (.Call (.Name x p) (e :: es) [] pos) (mCallV i tab ms) := by
  intro B ρ τ σ H Q hs q
  obtain ⟨d0, h0, q⟩ := peek_post q
  cases d0 <;> first | exact q.elim | skip
  rename_i y
  simp only at q
  cases ht : tab.lookup y with
  | none => rw [ht] at q; exact q.elim
  | some F =>
  rw [ht] at q
  obtain ⟨f, fd, ps, hm, hkp, hb, G⟩ := C y F ht
  obtain ⟨Hk, w, h⟩ := hs
  obtain ⟨v, hv0, vw⟩ := h.peek h0
  have ev : v = .ref f := by
    rcases vw with vw | ⟨_, _, vw⟩
    · cases vw with
      | fn g => rw [hm] at g; cases g; rfl
    · exact vw.elim
  subst ev
  have q : PostE X.K X.mg B W τ σ Q ((ms ρ).then fun rs => liftF F (rs.map fun r => .va r.d)) := q
  have G' := G.up hk
  refine ⟨fun σ1 H1 Q1 => σ1 = σ ∧ H1 = H ∧ Q1 = Q, ⟨fun pins s σ1 H1 Q1 I hq => ?_⟩, rfl, rfl, rfl⟩
  obtain ⟨rfl, rfl, rfl⟩ := hq
  obtain ⟨ta, hta, hgo⟩ := ha B ρ τ σ1 H1 (fun vs H2 => spD X.K X.mg F (es.length + 1) vs H2 Q1 (WE W σ1)) ⟨Hk, w, h⟩ (by
    cases h1 : ms ρ with
    | er => rw [h1] at q; exact q
    | ex c ns ds ρ' => rw [h1] at q; exact q
    | ok rs ρ1 =>
      rw [h1] at q
      intro vs H' hlen hs'
      exact call_ok hlen (by rw [hlen]; exact hl _ _ _ h1) hs' q)
  refine wpAny_Call_Name_kw (thn ((pe_var (pos := p) hN hv hd hcd).run pins s σ1 H1 (fun y H2 => y = .ref f ∧ H2 = H1) I ⟨.ref f, hv0, rfl, rfl⟩) fun u s1 hh => ?_)
  obtain ⟨y2, H2, I1, ry, ey, eH⟩ := hh
  subst ey eH
  cases ry
  refine PySem.W.callWith_K (h₀ := X.base) I.ok.mod.kin hkp (thn (hta.run pos pins s1 σ1 _ _ I1 hgo) fun us s2 hh => ?_) he hpl
  obtain ⟨vs, H3, I2, r, q3⟩ := hh
  exact ⟨I2.kIn, run_g G' xr hb (pw σ1) I2 r q3⟩
end
/-! ### small things -/
section
variable {X : Cx}
theorem ok_eqU (hu : X.A.units + 64 < cLine) : OpOk X (compareOp .Eq) dEq := by
  intro B ρ τ σ H Q v u x y r e hs q
  obtain ⟨Hk, w, hI, v1, v2⟩ := st2 hs
  obtain ⟨b, hb, rfl⟩ := Option.map_eq_some_iff.mp e
  rcases dEq_dp hI.e1 hb v1 v2 with ⟨h1, h2⟩ | ⟨p, p', h1, h2, s1, s2, hz⟩
  · exact ⟨_, op_eq, h1, by rw [h2]; exact q _ _ ⟨Hk, w, hI.push (.bl b)⟩⟩
  · exact ⟨_, op_eqD hu, p, p', h1, h2, s1, s2, by rw [hz]; exact q _ _ ⟨Hk, w, hI.push (.bl b)⟩⟩
theorem ok_neU (hu : X.A.units + 64 < cLine) : OpOk X (compareOp .NotEq) dNe := by
  intro B ρ τ σ H Q v u x y r e hs q
  obtain ⟨Hk, w, hI, v1, v2⟩ := st2 hs
  obtain ⟨b, hb, rfl⟩ := Option.map_eq_some_iff.mp e
  rcases dEq_dp hI.e1 hb v1 v2 with ⟨h1, h2⟩ | ⟨p, p', h1, h2, s1, s2, hz⟩
  · exact ⟨_, op_ne, h1, by rw [h2]; exact q _ _ ⟨Hk, w, hI.push (.bl (!b))⟩⟩
  · exact ⟨_, op_neD hu, p, p', h1, h2, s1, s2, by rw [hz]; exact q _ _ ⟨Hk, w, hI.push (.bl (!b))⟩⟩
/-- texts only -/
def strsOf : List D → Option (List Str)
  | [] => some []
  | .str i :: ds => (strsOf ds).map (i :: ·)
  | _ :: _ => none
theorem strsOf_eq : ∀ {ds : List D} {ns : List Str}, strsOf ds = some ns → ds = ns.map .str
  | [], _, h => by cases h; rfl
  | .str i :: ds, _, h => by
    obtain ⟨ns, h1, rfl⟩ := Option.map_eq_some_iff.mp (show (strsOf ds).map (i :: ·) = _ from h)
    rw [strsOf_eq h1]; rfl
  | .non :: _, _, h | .bl _ :: _, _, h | .int _ :: _, _, h | .tup _ :: _, _, h | .lst _ :: _, _, h | .scr _ :: _, _, h | .obj _ _ _ :: _, _, h | .fn _ :: _, _, h | .dct _ _ :: _, _, h | .adr _ :: _, _, h | .exc _ _ _ _ :: _, _, h | .clo _ _ _ _ _ _ :: _, _, h => by cases h
theorem strsOf_map (ns : List Str) : strsOf (ns.map .str) = some ns := by
  induction ns with
  | nil => rfl
  | cons n ns ih => show (strsOf (ns.map D.str)).map (n :: ·) = _; rw [ih]; rfl
theorem repL_strs {K : PySem.W.Frag} {mg : Str → Option Value} {H : Hp} : ∀ {ns : List Str} {vs : List V}, RepL K mg H vs (ns.map .str) → vs = ns.map V.str
  | [], _, .nil => rfl
  | n :: ns, _, .cons h r => by rw [h.str_eq, repL_strs r]; rfl
def dJoin (x : D) (ds : List D) : Option R := match x, ds with
  | .str a, [y] => match (match y with
      | .lst zs => strsOf zs
      | .tup zs => strsOf zs
      | _ => none) with
    | some ys => if (ys.map (·.length)).sum + ys.length * a.length ≤ 16777216 then some (.cl (.str (Txt.join a ys))) else none
    | none => none
  | _, _ => none
theorem rm_join : RmOk X "str.join" dJoin := by
  intro B Hk w ρ τ σ H Q v d us ds r h rv ru hg k
  unfold dJoin at hg
  split at hg
  · rename_i a y
    split at hg
    · rename_i ys hys
      split at hg
      · rename_i hz
        cases hg
        obtain ⟨u, rfl, r1⟩ := one_arg ru
        have ev := rv.str_eq
        subst ev
        cases y <;> simp only [reduceCtorEq] at hys
        · obtain ⟨b, xs, rfl, hx, ra⟩ := View.tup (.inl r1) h.e1
          rw [strsOf_eq hys] at ra
          rw [repL_strs ra] at hx
          exact ⟨_, mt_join, a, b, ys, rfl, rfl, .inr hx, hz, k _ _ ⟨Hk, w, h.push (.str _)⟩⟩
        · obtain ⟨b, xs, rfl, hx, ra⟩ := View.lst (.inl r1) h.e1
          rw [strsOf_eq hys] at ra
          rw [repL_strs ra] at hx
          exact ⟨_, mt_join, a, b, ys, rfl, rfl, .inl (SqL.of hx), hz, k _ _ ⟨Hk, w, h.push (.str _)⟩⟩
      · cases hg
    · cases hg
  · cases hg
end
end Vy
namespace Vy
open PySem PySem.Spec PyProof.Rows L2
open Evl (Ex)
/-! ### the law's own call, with tables of code objects -/
section
variable {P : Program} {w : World} {K : PySem.W.Frag} {mg mb : Str → Option Value} {k : Nat} {fa a : Addr} {fd : FuncData} {x : Str} {F : Fn} {s₁ : Shared} {vs : List Value} {ns : List Int} {cs : List (Addr × Addr)}
/-- the first abstract heap: the script, unless it is written, and the tables -/
def firstH (K : PySem.W.Frag) (a : Addr) (ob : Obj) (ns : List Int) (ts : List Addr) : Hp := fun b => if b ∈ ts then some (.tbl #[]) else if b = a ∧ K.lookup a = none then some (.frz ob (.lst (ns.map V.int))) else none
theorem firstH_tab {ob : Obj} {ts : List Addr} {b : Addr} (h : b ∈ ts) : firstH K a ob ns ts b = some (.tbl #[]) := if_pos h
theorem firstH_cases {ob : Obj} {ts : List Addr} (b : Addr) : (b ∈ ts ∧ firstH K a ob ns ts b = some (.tbl #[])) ∨ (b ∉ ts ∧ b = a ∧ K.lookup a = none ∧ firstH K a ob ns ts b = some (.frz ob (.lst (ns.map V.int)))) ∨ (b ∉ ts ∧ firstH K a ob ns ts b = none) := by
  by_cases h : b ∈ ts
  · exact .inl ⟨h, if_pos h⟩
  · by_cases h2 : b = a ∧ K.lookup a = none
    · exact .inr (.inl ⟨h, h2.1, h2.2, (if_neg h).trans (if_pos h2)⟩)
    · exact .inr (.inr ⟨h, (if_neg h).trans (if_neg h2)⟩)
theorem law_runT (KX : K.In s₁.heap) (hns : s₁.heap.Ns mainGlobals mg) (hb : s₁.heap.Ns builtinsNs mb) (hbb : ∀ x : Str, x ≠ "__name__" → mb x = bootBuiltins x) (hlim : s₁.heap.NoLimit) (hg : s₁.gens = #[])
    (hT : ∀ p ∈ cs, s₁.heap.get? p.2 = some { cls := .none, data := .fields #[] }) (nT : ∀ p ∈ cs, K.lookup p.2 = none) (C : ∀ p ∈ cs, PySem.W.CodeHd s₁.heap p.1 p.2) (hLT : ∀ t, IsTab K t ↔ t ∈ cs.map (·.2))
    (hbm : ∃ (bm : Addr) (ob : Obj), mg "__builtins__" = some (.ref bm) ∧ bm ≠ builtinsNs ∧ s₁.heap.get? bm = some ob ∧ ob.cls = .type "module" ∧ ob.dict = some builtinsNs ∧ ob.data = .plain)
    (ha : s₁.heap.get? a = some { cls := .type "list", data := .seq vs.toArray }) (hi : IntsAre vs ns) (hl : ns.length ≤ sizeLine) (hr : Room k callerA)
    (G : ∀ base : Heap, K.In base → base.Ns mainGlobals mg → (∀ p ∈ cs, LamX.TabB base mg p.1 p.2) → FnG P w K mg base k fa fd [x] (spD K mg F 1)) (hbind : ∀ (s : Shared) (u : Value), BindsTo s fd ⟨[u], []⟩ [(x, u)]) (hF : ∃ r ρ', F [.va (.scr ns)] = .ok r ρ' ∧ r.d = .bl true) :
    codeAny (model P w) callerA (.call (.ref fa) ⟨[.ref a], []⟩) (fun r s' => r = .ok (.ret (.bool true)) ∧ OldK s₁.heap s'.heap ∧ s'.os = s₁.os ∧ AllBare s'.gens) s₁ := by
  let ts := cs.map (·.2)
  let ob : Obj := { cls := .type "list", data := .seq vs.toArray }
  let H : Hp := firstH K a ob ns ts
  have inT : ∀ {t}, t ∈ ts → ∃ p ∈ cs, p.2 = t := fun ht => by
    obtain ⟨p, hp, e⟩ := List.mem_map.mp ht
    exact ⟨p, hp, e⟩
  have getT : ∀ {t}, t ∈ ts → s₁.heap.get? t = some { cls := .none, data := .fields #[] } := fun ht => by
    obtain ⟨p, hp, e⟩ := inT ht
    rw [← e]
    exact hT p hp
  have KT : ∀ {t}, t ∈ ts → K.lookup t = none := fun ht => by
    obtain ⟨p, hp, e⟩ := inT ht
    rw [← e]
    exact nT p hp
  have aT : a ∉ ts := fun z => by
    have := getT z
    rw [ha] at this
    cases congrArg Obj.data (Option.some.inj this)
  have rv := vals_ints hi
  have lenV := hi.length
  have hS : SqL K H a (ns.map V.int) := by
    cases hk : K.lookup a with
    | none => exact .inl (.inr ⟨ob, (if_neg aT).trans (if_pos ⟨rfl, hk⟩)⟩)
    | some o =>
      have e := KX a o hk
      rw [ha] at e
      cases e
      exact .inr ⟨_, vs.toArray, _, hk, rfl, rfl, rfl, by simpa [lenV] using hl, by simpa using rv⟩
  have hok : HOk P w H s₁.heap := fun b u e => by
    rcases firstH_cases (K := K) (a := a) (ob := ob) (ns := ns) (ts := ts) b with ⟨h1, h2⟩ | ⟨_, rfl, _, h2⟩ | ⟨_, h2⟩
    · rw [show H b = _ from h2] at e
      cases e
      exact getT h1
    · rw [show H b = _ from h2] at e
      cases e
      exact ⟨ha, by simpa using hl, vs, _, rv, ha⟩
    · rw [show H b = _ from h2] at e
      cases e
  -- what the base keeps
  have freeOf : ∀ {b : Addr} {o : Obj}, s₁.heap.get? b = some o → (∀ v n, o.data ≠ .seq v n) → o.data ≠ .fields #[] → H b = none := fun {b o} e n1 n2 => by
    rcases firstH_cases (K := K) (a := a) (ob := ob) (ns := ns) (ts := ts) b with ⟨h1, _⟩ | ⟨_, rfl, _, _⟩ | ⟨_, h2⟩
    · have := getT h1
      rw [e] at this
      cases this
      exact absurd rfl n2
    · rw [ha] at e
      cases e
      exact absurd rfl (n1 _ _)
    · exact h2
  have freeD : ∀ {b : Addr} {o : Obj} {es : Array DictEntry} {ep : Nat}, s₁.heap.get? b = some o → o.data = .dict es ep → H b = none := fun e d => freeOf e (fun v n z => by rw [d] at z; cases z) fun z => by rw [d] at z; cases z
  have nsK : ∀ {b : Addr} {m : Str → Option Value}, s₁.heap.Ns b m → (hidT s₁.heap H).Ns b m := by
    rintro b m ⟨o, es, ep, e, d, r⟩
    exact ⟨o, es, ep, hidT_get e (freeD e d), d, r⟩
  have hKb : K.In (hidT s₁.heap H) := fun b o e => by
    refine hidT_get (KX b o e) ?_
    rcases firstH_cases (K := K) (a := a) (ob := ob) (ns := ns) (ts := ts) b with ⟨h1, _⟩ | ⟨_, rfl, h2, _⟩ | ⟨_, h2⟩
    · rw [KT h1] at e; cases e
    · rw [h2] at e; cases e
    · exact h2
  have hM : Mod K mg (hidT s₁.heap H) := by
    obtain ⟨mc, h1, h2⟩ := hlim
    exact ⟨hKb, nsK hns, ⟨mb, nsK hb, hbb⟩, ⟨mc, nsK h1, h2⟩⟩
  have TB : ∀ p ∈ cs, LamX.TabB (hidT s₁.heap H) mg p.1 p.2 := fun p hp => by
    have hTp := hT p hp
    refine ⟨?_, ?_, fun z => ?_⟩
    · obtain ⟨o, us, file, tf, flags, tg, inF, text, tt, e1, r1, r2, r3, rest⟩ := C p hp
      refine ⟨o, us, file, tf, flags, tg, inF, text, tt, hidT_get e1 (freeOf e1 (fun v n z => by rw [r2] at z; cases z) fun z => ?_), r1, r2, r3, rest⟩
      rw [r2] at z
      cases z
      simp at r3
    · obtain ⟨bm, om, b1, b2, b3, b4, b5, b6⟩ := hbm
      have nG : bm ≠ mainGlobals := fun q => by
        obtain ⟨o, es, ep, e, hd, _⟩ := hns
        rw [q, e] at b3
        cases b3
        rw [hd] at b6
        cases b6
      have nP : bm ≠ p.2 := fun q => by
        rw [q, hTp] at b3
        cases b3
        cases b6
      exact ⟨bm, om, b1, b2, nG, nP, hidT_get b3 (freeOf b3 (fun v n z => by rw [b6] at z; cases z) fun z => by rw [b6] at z; cases z), b4, b5, b6⟩
    · obtain ⟨o, es, ep, e, hd, _⟩ := hns
      rw [z, hTp] at e
      cases e
      cases hd
  have e0 : Env0 P w K mg (hidT s₁.heap H) callerA [] s₁ H := ⟨rfl, hM, fun b o e => of_hidT e, Nat.le_of_eq (hidT_size _ _), trivial, (fun b hb => nomatch hb), hok, AllBare.of_eq hg⟩
  obtain ⟨r0, ρ0, hF, hd⟩ := hF
  -- the known part: all but the tables
  let Hk : Hp := fun b => if b ∈ ts then none else H b
  have ek : Ex Hk H := fun b o e => by
    by_cases h : b ∈ ts
    · rw [show Hk b = none from if_pos h] at e; cases e
    · rwa [show Hk b = H b from if_neg h] at e
  have tbT : LamX.Tabs (LawTabs K) H := fun p hp => by
    have hin : p.1 ∈ ts := (hLT p.1).mp ⟨p, hp, rfl⟩
    exact LamX.TabS.nil (firstH_tab hin)
  have live : LiveT K ⟨Hk, H, IsTab K⟩ H := ⟨fun _ z => z, tbT, fun p hp => by
    have hin : p.1 ∈ ts := (hLT p.1).mp ⟨p, hp, rfl⟩
    have nn : H p.1 ≠ none := fun z => by
      have z1 : H p.1 = some (.tbl #[]) := firstH_tab hin
      rw [z1] at z
      cases z
    exact ⟨nn, if_pos hin, p, hp, rfl⟩, fun b ps e => by
    rcases firstH_cases (K := K) (a := a) (ob := ob) (ns := ns) (ts := ts) b with ⟨h1, _⟩ | ⟨_, _, _, h2⟩ | ⟨_, h2⟩
    · exact (hLT b).mpr h1
    · rw [show H b = _ from h2] at e; cases e
    · rw [show H b = _ from h2] at e; cases e⟩
  have hSk : SqL K Hk a (ns.map V.int) := by
    cases hk : K.lookup a with
    | none => exact .inl (.inr ⟨ob, (if_neg aT).trans ((if_neg aT).trans (if_pos ⟨rfl, hk⟩))⟩)
    | some o =>
      have e := KX a o hk
      rw [ha] at e
      cases e
      exact .inr ⟨_, vs.toArray, _, hk, rfl, rfl, rfl, by simpa [lenV] using hl, by simpa using rv⟩
  have hsp : spD K mg F 1 [.ref a] H (fun v _ => v = .bl true) (fun _ _ _ => False) := by
    refine ⟨⟨Hk, H, IsTab K⟩, [.va (.scr ns)], fun _ => none, rfl, rfl, ⟨rfl, fun _ _ z => z, ek, fun _ _ z _ => z, fun _ _ z => .inl z, live, fun i y sl e1 e2 => ?_, trivial⟩, ?_⟩
    · cases i with
      | zero => cases e1; cases e2; exact ⟨_, rfl, .scr hSk⟩
      | succ i => simp at e1
    · rw [hF]
      rintro v σ' H' ⟨Hk', w', c⟩
      have vw := c.view
      rw [hd] at vw
      exact vw.bl_eq
  refine codeAny_mono ((G _ hKb (nsK hns) TB).run callerA [] s₁ H ⟨[.ref a], []⟩ [.ref a] [.ref a] _ _ hr rfl e0 (hbind s₁ (.ref a)) (.cons rfl .nil) hsp) ?_
  intro r s' h
  match r, h with
  | .error e, h =>
    obtain ⟨_, _, _, _, _, _, _, _, _, _, _, _, z⟩ := h
    exact z.elim
  | .ok .next, h => exact h.elim
  | .ok .brk, h => exact h.elim
  | .ok .cont, h => exact h.elim
  | .ok (.ret u), h =>
    obtain ⟨v, H', os, bare, un, hok', r', q⟩ := h
    obtain rfl : v = .bl true := q
    obtain rfl : u = Value.bool true := r'
    have kept : ∀ b o, b ∉ ts → s₁.heap.get? b = some o → s'.heap.get? b = some o := fun b o nb e => by
      rcases firstH_cases (K := K) (a := a) (ob := ob) (ns := ns) (ts := ts) b with ⟨h1, _⟩ | ⟨_, _, _, h2⟩ | ⟨_, h2⟩
      · exact absurd h1 nb
      · have z1 := (hok b _ h2).1
        have z2 := (hok' b _ (un.frzs b ob _ h2)).1
        rw [e] at z1
        cases z1
        exact z2
      · exact un.keep b o e h2 (fun z => nomatch z) (fun z => nomatch z)
    have grown : ∀ p ∈ cs, ∃ more : Array Value, s'.heap.get? p.2 = some { cls := .none, data := .fields more } := fun p hp => by
      obtain ⟨more, z⟩ := un.tbls p.2 #[] (firstH_tab (List.mem_map.mpr ⟨p, hp, rfl⟩))
      exact ⟨_, hok' p.2 _ z⟩
    refine ⟨rfl, ⟨fun b o e => ?_, fun b o e => ?_⟩, os, bare⟩
    · by_cases hb : b ∈ ts
      · obtain ⟨p, hp, rfl⟩ := inT hb
        obtain ⟨more, hm⟩ := grown p hp
        rw [hT p hp] at e
        cases e
        exact .inr (.inl ⟨((C p hp).tab (hT p hp)).isCodeTable, rfl, #[], more, rfl, by rw [Array.empty_append]; exact hm⟩)
      · exact .inl (kept b o hb e)
    · by_cases hb : b ∈ ts
      · obtain ⟨p, hp, rfl⟩ := inT hb
        obtain ⟨more, hm⟩ := grown p hp
        exact ⟨_, hm⟩
      · exact ⟨o, kept b o hb e⟩
end
/-! ### where lambdas stand -/
/-- the tables of the defs of these names -/
def tabsOf (xs : List Str) (K : PySem.W.Frag) : List (Addr × Str) := xs.filterMap fun x => (PySem.W.tabIn K x).map fun cp => (cp.2, (x ++ ".<locals>.") ++ "<lambda>")
def LamAt (K : PySem.W.Frag) (mg : Str → Option Value) (base : Heap) (x : Str) : Prop := ∃ c P : Addr, PySem.W.tabIn K x = some (c, P) ∧ LamX.TabB base mg c P ∧ (P, (x ++ ".<locals>.") ++ "<lambda>") ∈ LawTabs K ∧ ∀ p ∈ LawTabs K, p.1 = P → p.2 = (x ++ ".<locals>.") ++ "<lambda>"
theorem tab_code {K : PySem.W.Frag} {x : Str} {f c P : Addr} {o : Obj} {fd : FuncData} (hq : PySem.W.nsIn K mainGlobals x = some (some (.ref f))) (lk : K.lookup f = some o) (hd : o.data = .func fd) (ht : PySem.W.tabIn K x = some (c, P)) : fd.code = .ref c := by
  unfold PySem.W.tabIn at ht
  rw [hq] at ht
  simp only at ht
  split at ht
  · rename_i _ _ fd' _ h2
    rw [lk] at h2
    cases h2
    cases hd
    split at ht
    · rename_i c' hc
      split at ht
      · split at ht
        · cases ht; exact hc
        · cases ht
      · cases ht
    · cases ht
  · cases ht
section
variable {P : Program} {w : World} {K : PySem.W.Frag} {mg : Str → Option Value} {base : Heap}
theorem lam_code {x : Str} {st : Stmt} {f : Addr} {fd : FuncData} (F : Fun K x x st f fd) (hq : PySem.W.nsIn K mainGlobals x = some (some (.ref f))) (L : LamAt K mg base x) : ∃ c P : Addr, fd.code = .ref c ∧ LamX.TabB base mg c P ∧ (P, (x ++ ".<locals>.") ++ "<lambda>") ∈ LawTabs K ∧ ∀ p ∈ LawTabs K, p.1 = P → p.2 = (x ++ ".<locals>.") ++ "<lambda>" := by
  obtain ⟨c, P, ht, h1, h2, h3⟩ := L
  obtain ⟨oc, od, kV, doc, pm, an, cdv, ct, osl, rfl, lk, hcd⟩ := F.ex
  exact ⟨c, P, tab_code hq lk rfl ht, h1, h2, h3⟩
/-- a def in which a lambda stands -/
theorem cal_mkL {x : Str} {st : Stmt} {f : Addr} {fd : FuncData} {N ps : List Str} {k : Nat} {m : M Fl} (F : Fun K x x st f fd) (hm : mg x = some (.ref f)) (S : FnScope N ps (defScope st)) (hq : PySem.W.nsIn K mainGlobals x = some (some (.ref f))) (L : LamAt K mg base x)
    (hbind : ∀ (kV doc pm : Value) (an : Option Addr) (cdv ct : Value) (us : List Value), us.length = ps.length → bindArgs (PySem.W.fnOf x x (defArgs st) (defBody st) (defScope st) .none kV doc pm an cdv ct) ⟨us, []⟩ = pure (ps.zip us))
    (hb : ∀ (c Pt : Addr) (A : Around) (outer : List Env) (s : Shared) (H : Hp) (E : XK), LamX.TabB base mg c Pt → (Pt, (x ++ ".<locals>.") ++ "<lambda>") ∈ LawTabs K → (∀ p ∈ LawTabs K, p.1 = Pt → p.2 = (x ++ ".<locals>.") ++ "<lambda>") → XR k (cxOf (L2.CX P w) P w K mg base N x (defScope st) f (.ref c) A outer s H E) →
      PassesOwn (model P w) (A.deeper (envOfC x (defScope st) s.heap.objs.size f (.ref c))) (envOfC x (defScope st) s.heap.objs.size f (.ref c)) (cxOf (L2.CX P w) P w K mg base N x (defScope st) f (.ref c) A outer s H E).xe →
      Takes (cxOf (L2.CX P w) P w K mg base N x (defScope st) f (.ref c) A outer s H E) (wOf E) → TrSs0 (cxOf (L2.CX P w) P w K mg base N x (defScope st) f (.ref c) A outer s H E) (wOf E) (defBody st) m) : Cal P w K mg base x ps.length (k + 1) (bodyF N.length m) := by
  obtain ⟨c, Pt, hc, h1, h2, h3⟩ := lam_code F hq L
  refine ⟨f, fd, ps, hm, F.kp, F.binds hbind, ?_⟩
  obtain ⟨oc, od, kV, doc, pm, an, cdv, ct, osl, rfl, lk, hcd⟩ := F.ex
  obtain rfl : cdv = .ref c := hc
  refine fnG_of lk hcd S (fun vs H Q E h => by obtain ⟨_, _, _, h, _⟩ := h; exact h) fun A outer s H vs Q E hr hgd hsp => ?_
  obtain ⟨B, ρ, w', hn, hH, hI, q⟩ := hsp
  have hlr : ρ.length = vs.length := by simpa using hI.len
  have hst : St K mg B (ρ ++ List.replicate (N.length - vs.length) .no) [] (start N vs) H := ⟨B.Hk0, w', hI.pad (N.length - vs.length)⟩
  refine hb c Pt A outer s H E h1 h2 h3 ⟨hr, hgd, rfl, S.nd⟩ (passes_of rfl) (takes_of rfl rfl rfl rfl) B (ρ ++ List.replicate (N.length - vs.length) Slot.no) (start N vs) H _ hst ?_
  unfold bodyF at q
  rw [hlr] at q
  show PostS K mg B (wOf E) [] _ (m (ρ ++ List.replicate (N.length - vs.length) .no))
  cases h1 : m (ρ ++ List.replicate (N.length - vs.length) .no) with
  | er => rw [h1] at q; exact q
  | ex c ns ds ρ' => rw [h1] at q; exact fun σ' C d H' hs hx => q C d σ' H' hs hx
  | ok fl ρ' =>
    rw [h1] at q
    cases fl with
    | nx => exact fun σ' H' ⟨Hk, w2, h2⟩ => q .non σ' H' ⟨Hk, w2, h2.push .non⟩
    | rt r => exact fun v σ' H' hs => q v σ' H' hs
    | bk => exact q.elim
    | ct => exact q.elim
end
/-- the facts of the tables, at the end -/
structure TabsAre (q : Program) (K : PySem.W.Frag) (ls : List (Str × Addr × Addr)) : Prop where
  at_ : ∀ e ∈ ls, PySem.W.tabIn K e.1 = some e.2 ∧ K.lookup e.2.2 = none
  recs : ∀ e ∈ ls, ((recsOf q).any fun d => d.name == (e.1 : Str)) = true
  one : ∀ e ∈ ls, ∀ e' ∈ ls, e.2.2 = e'.2.2 → e.1 = e'.1
  law : LawTabs K = ls.map fun e => (e.2.2, ((e.1 ++ ".<locals>.") ++ "<lambda>" : Str))
theorem walk_GL {l : PySem.W.OpenLaw} {n k : Nat} {q : Program} {loose : List Str} {XP : (Str → Option Value) → Heap → Prop} {YP : World → Heap → Prop} {d : DefRec} {K : Params → PySem.W.Frag} {x : Str} {F : Fn}
    (hn : l.most = some n) (hn2 : n ≤ sizeLine) (hdf : d.params.defaults = []) (hr : Room k callerA) (hY : ∀ (w : World) (h : Heap), YP w h → (K w.params).In h)
    (G : ∀ (w : World) (mg : Str → Option Value) (fa : Addr) (h : Heap), (K w.params).In h → h.Ns mainGlobals mg → mg d.name = some (.ref fa) → ∃ (fd : FuncData) (ls : List (Str × Addr × Addr)), TabsAre q (K w.params) ls ∧ (∀ (s : Shared) (u : Value), BindsTo s fd ⟨[u], []⟩ [(x, u)]) ∧
      ∀ base : Heap, (K w.params).In base → base.Ns mainGlobals mg → (∀ e ∈ ls, LamAt (K w.params) mg base e.1) → FnG l.prog w (K w.params) mg base k fa fd [x] (spD (K w.params) mg F 1))
    (hF : ∀ ns : List Int, ns.length ≤ n → ∃ r ρ', F [.va (.scr ns)] = .ok r ρ' ∧ r.d = .bl true) : PySem.W.WalkO q loose XP YP l.row.toRowW d [] (fun f vs => PySem.call f vs) := by
  refine Att.attach_call hn hdf ?_
  intro w s₀ s₁ mg mb fa o pm cd doc a vs ns G0 Y ho hd hcd hmg hobj hints hlen hg
  have KX := hY w _ Y
  obtain ⟨fd, ls, TA, hb, hG⟩ := G w mg fa _ KX G0.T.g hmg
  have tab : ∀ e ∈ ls, PySem.W.CodeHd s₁.heap e.2.1 e.2.2 ∧ s₁.heap.get? e.2.2 = some { cls := .none, data := .fields #[] } := fun e he => by
    obtain ⟨y, c, P⟩ := e
    obtain ⟨dd, hm, hq⟩ : ∃ dd, (recsOf q).find? (fun z => z.name == y) = some dd ∧ True := by
      cases hf : (recsOf q).find? (fun z => z.name == y) with
      | some dd => exact ⟨dd, rfl, trivial⟩
      | none =>
        obtain ⟨z, hz, hz2⟩ := List.any_eq_true.mp (TA.recs _ he)
        exact absurd hz2 (List.find?_eq_none.mp hf z hz)
    exact PySem.W.tab_of G0.T KX hm (TA.at_ _ he).1
  let cs := ls.map (·.2)
  have inC : ∀ {p}, p ∈ cs → ∃ e ∈ ls, e.2 = p := fun hp => by
    obtain ⟨e, he, hz⟩ := List.mem_map.mp hp
    exact ⟨e, he, hz⟩
  refine law_runT (cs := cs) KX G0.T.g G0.T.b G0.T.builtins G0.T.nolimit hg (fun p hp => ?_) (fun p hp => ?_) (fun p hp => ?_) (fun t => ?_) G0.T.bmain hobj hints (Nat.le_trans hlen hn2) hr (fun base hK hN TB => hG base hK hN fun e he => ?_) hb (hF ns hlen)
  · obtain ⟨e, he, rfl⟩ := inC hp
    exact (tab e he).2
  · obtain ⟨e, he, rfl⟩ := inC hp
    exact (TA.at_ e he).2
  · obtain ⟨e, he, rfl⟩ := inC hp
    exact (tab e he).1
  · constructor
    · rintro ⟨y, hy, rfl⟩
      rw [TA.law] at hy
      obtain ⟨e, he, rfl⟩ := List.mem_map.mp hy
      exact List.mem_map.mpr ⟨e.2, List.mem_map.mpr ⟨e, he, rfl⟩, rfl⟩
    · intro ht
      obtain ⟨p, hp, rfl⟩ := List.mem_map.mp ht
      obtain ⟨e, he, rfl⟩ := inC hp
      exact ⟨(e.2.2, ((e.1 ++ ".<locals>.") ++ "<lambda>" : Str)), by rw [TA.law]; exact List.mem_map.mpr ⟨e, he, rfl⟩, rfl⟩
  · refine ⟨e.2.1, e.2.2, (TA.at_ e he).1, TB e.2 (List.mem_map.mpr ⟨e, he, rfl⟩), by rw [TA.law]; exact List.mem_map.mpr ⟨e, he, rfl⟩, fun p hp hz => ?_⟩
    rw [TA.law] at hp
    obtain ⟨e', he', rfl⟩ := List.mem_map.mp hp
    show (e'.1 ++ _) ++ _ = _
    rw [TA.one e' he' e he hz]
end Vy
namespace Vy
open PySem PySem.Spec PyProof.Rows L2
open Evl (Ex)
/-! ### x += e, of ints -/
def augK (i : Nat) (d : D) (e : D) : M Fl := match d, e with
  | .int a, .int b => M.sto (put i (.cl (.int (a + b)))) >>= fun _ => pure .nx
  | _, _ => M.fail
def mAug (i : Nat) (m : M R) : M Fl := mPeek i >>= fun d => m >>= fun r => augK i d r.d
section
variable {X : Cx} {W : WX} {e : Expr} {m : M R} {i : Nat} {x : Str} {pos p' : Pos}
theorem trs_aug (h : TrE X W e m) (xn : X.N.Nodup) (hi : X.N[i]? = some x := by rfl) (hx : Loc X.env.scope x := by first | exact Or.inl rfl | exact Or.inr rfl) (hf : X.fn x = true ∨ X.env.scope.names.lookup x = some .local := by first | exact .inl rfl | exact .inr rfl) : TrS X W (.AugAssign (.Name x p') .Add e pos) (mAug i m) := by
  intro B ρ τ σ H Dn hst q
  have q : PostS X.K X.mg B W τ Dn ((mPeek i >>= fun d => m >>= fun r => augK i d r.d) ρ) := q
  rw [bind_at] at q
  unfold mPeek at q
  cases h0 : peekS ρ[i]? with
  | none => rw [h0] at q; exact q.elim
  | some d =>
  rw [h0] at q
  have q : PostS X.K X.mg B W τ Dn ((m ρ).then fun r => augK i d r.d) := q
  obtain ⟨v, hv, vw⟩ : ∃ v, σ[i]? = some (some v) ∧ ∀ a, d = .int a → v = .int a := by
    obtain ⟨Hk, w, hI⟩ := hst
    obtain ⟨v, hv, vw⟩ := hI.peek h0
    exact ⟨v, hv, fun a e => by rw [e] at vw; exact vw.int_eq⟩
  refine ⟨tAug i (AnyE X e) (ipI fun i j => i + j), ps_aug xn hi hx pe_any ip_add hf, v, hv, h B ρ τ σ H _ hst ?_⟩
  cases h1 : m ρ with
  | er => rw [h1] at q; exact q
  | ex c ns ds ρ' => rw [h1] at q; exact q σ
  | ok r ρ1 =>
    rw [h1] at q
    intro u H' ⟨Hk, w, hI⟩
    have uw := hI.view
    have q : PostS X.K X.mg B W τ Dn (augK i d r.d ρ1) := q
    generalize r.d = rd at q uw
    cases d <;> first | exact q.elim | skip
    cases rd <;> first | exact q.elim | skip
    rw [uw.int_eq, vw _ rfl]
    obtain ⟨ρ2, h2, q⟩ := sto_post (f := fun _ => pure .nx) q
    exact ⟨_, _, rfl, rfl, q _ _ (put_st h2 ⟨Hk, w, hI.pop.push (.int _)⟩)⟩
end
/-- xs.insert(i, y) -/
theorem m2_ins {X : Cx} : Mt2Ok X "list.insert" fIns := by
  intro Hk H p xs ds ds' d u y u2 y2 Q e1 hx rx ru ru2 he k
  cases y <;> simp only [fIns, reduceCtorEq] at he
  split at he
  · rename_i n hz
    cases he
    rw [ru.int_eq]
    exact ⟨_, mt_insert, p, xs, n, u2, rfl, rfl, hx, by rw [rx.len]; exact hz.1, hz.2.1, hz.2.2, k _ _ (by rw [List.append_assoc]; exact (rx.take _).app (.cons ru2 (rx.drop _))) .non⟩
  · cases he
end Vy
namespace Vy
open PySem PySem.Spec PyProof.Rows L2
/-! ### classes, as the top has written them -/
section
variable {K : PySem.W.Frag} {mg : Str → Option Value} {C CT : Addr} {b : Bool} {c T f : Str}
theorem kit_own (h1 : PySem.W.isClsIn K CT = true) (h2 : PySem.W.typeIn K (.ref CT) = some (.type "type")) (h3 : PySem.W.subIn K (.ref CT) (.ref CT) = some true) (h4 : PySem.W.subIn K (.ref C) (.ref CT) = some b) : PySem.W.kitOne K (.ref C) (.ref CT) = some b ∧ PySem.W.kitCls K (.ref C) (.ref CT) = some b := by
  have e2 : ((PySem.W.clsIn K CT).isSome && PySem.W.typeIn K (.ref CT) == some (.type "type")) = true := by
    have h1' : (PySem.W.clsIn K CT).isSome = true := h1
    rw [h1', h2] <;> rfl
  have e3 : PySem.W.kitCls K (.ref C) (.ref CT) = some b := by
    show (if ((PySem.W.clsIn K CT).isSome && PySem.W.typeIn K (.ref CT) == some (.type "type")) = true then PySem.W.subIn K (.ref C) (.ref CT) else none) = _
    rw [if_pos e2]
    exact h4
  refine ⟨?_, e3⟩
  show (if (Value.ref C == Value.ref CT) = true then some true else PySem.W.kitCls K (.ref C) (.ref CT)) = _
  by_cases e : (Value.ref C == Value.ref CT) = true
  · rw [if_pos e]
    have : C = CT := by simpa using e
    subst this
    rw [h3] at h4
    exact h4
  · rw [if_neg e]
    exact e3
theorem exm_own (h0 : PySem.W.subIn K (.ref CT) (.type "BaseException") = some true) (h1 : PySem.W.isClsIn K CT = true) (h2 : PySem.W.typeIn K (.ref CT) = some (.type "type")) (h3 : PySem.W.subIn K (.ref CT) (.ref CT) = some true) (h4 : PySem.W.subIn K (.ref C) (.ref CT) = some b) : PySem.W.exmOne K (.ref C) (.ref CT) = some b := by
  show (if (PySem.W.subIn K (.ref CT) (.type "BaseException") == some true) = true then PySem.W.kitCls K (.ref C) (.ref CT) else none) = _
  have e1 : (PySem.W.subIn K (.ref CT) (.type "BaseException") == some true) = true := by rw [h0] <;> rfl
  rw [if_pos e1]
  exact (kit_own h1 h2 h3 h4).2
theorem kit_blt {TT : String} (h : PySem.W.kitMeta TT = true) (h4 : PySem.W.subIn K (.ref C) (.type TT) = some b) : PySem.W.kitOne K (.ref C) (.type TT) = some b := by
  show (if (Value.ref C == Value.type TT) = true then some true else PySem.W.kitCls K (.ref C) (.type TT)) = _
  rw [if_neg (by intro z; cases z)]
  show (if PySem.W.kitMeta TT = true then PySem.W.subIn K (.ref C) (.type TT) else none) = _
  rw [if_pos h]
  exact h4
/-- an answer table: of class c, asked of class T -/
def ansOf (tab : List (Str × List (Str × Bool))) (c T : Str) : Option Bool := (tab.lookup c).bind fun l => l.lookup T
theorem lookup_mem {α : Type} {x : Str} {v : α} : ∀ {l : List (Str × α)}, l.lookup x = some v → (x, v) ∈ l
  | (y, u) :: l, h => by
    rw [List.lookup_cons] at h
    split at h
    · rename_i e
      have e := beq_iff_eq.mp e
      cases h
      rw [e]
      exact List.mem_cons_self
    · exact List.mem_cons_of_mem _ (lookup_mem h)
theorem ansOf_mem {tab : List (Str × List (Str × Bool))} (h : ansOf tab c T = some b) : ∃ l, (c, l) ∈ tab ∧ (T, b) ∈ l := by
  obtain ⟨l, h1, h2⟩ := Option.bind_eq_some_iff.mp h
  exact ⟨l, lookup_mem h1, lookup_mem h2⟩
def PairOk (K : PySem.W.Frag) (mg : Str → Option Value) (c T : Str) (b : Bool) : Prop := ∃ C CT : Addr, mg c = some (.ref C) ∧ mg T = some (.ref CT) ∧ ExcC K C ∧ PySem.W.kitOne K (.ref C) (.ref CT) = some b
def PairB (K : PySem.W.Frag) (mg : Str → Option Value) (c : Str) (T : String) (b : Bool) : Prop := ∃ C : Addr, mg c = some (.ref C) ∧ ExcC K C ∧ PySem.W.kitOne K (.ref C) (.type T) = some b
def CatOk (K : PySem.W.Frag) (mg : Str → Option Value) (c T : Str) (b : Bool) : Prop := ∃ C CT : Addr, mg c = some (.ref C) ∧ mg T = some (.ref CT) ∧ PySem.W.exmOne K (.ref C) (.ref CT) = some b
def FldOk (K : PySem.W.Frag) (mg : Str → Option Value) (c f : Str) : Prop := ∃ C : Addr, mg c = some (.ref C) ∧ XfC K C ∧ PySem.W.findIn K (.ref C) f = some none
def IniOk (K : PySem.W.Frag) (mg : Str → Option Value) (c n qual : Str) (st : Stmt) : Prop := ∃ (C fI : Addr) (fd : FuncData), mg c = some (.ref C) ∧ OexC K C ∧ PySem.W.findIn K (.ref C) "__init__" = some (some (.ref fI)) ∧ PySem.W.typeIn K (.ref fI) = some (.type "function") ∧ PySem.W.findIn K (.ref C) n = some none ∧ Fun K "__init__" qual st fI fd
theorem isa_of {tab : List (Str × List (Str × Bool))} (h : ∀ p ∈ tab, ∀ q ∈ p.2, PairOk K mg p.1 q.1 q.2) : ∀ c T b C CT, ansOf tab c T = some b → mg c = some (.ref C) → mg T = some (.ref CT) → ExcC K C ∧ PySem.W.kitOne K (.ref C) (.ref CT) = some b := by
  intro c T b C CT e h1 h2
  obtain ⟨l, m1, m2⟩ := ansOf_mem e
  obtain ⟨C', CT', g1, g2, g3, g4⟩ := h _ m1 _ m2
  rw [h1] at g1
  rw [h2] at g2
  cases g1; cases g2
  exact ⟨g3, g4⟩
theorem cat_of {tab : List (Str × List (Str × Bool))} (h : ∀ p ∈ tab, ∀ q ∈ p.2, CatOk K mg q.1 p.1 q.2) : ∀ T c b C CT, ansOf tab T c = some b → mg c = some (.ref C) → mg T = some (.ref CT) → PySem.W.exmOne K (.ref C) (.ref CT) = some b := by
  intro c T b C CT e h1 h2
  obtain ⟨l, m1, m2⟩ := ansOf_mem e
  obtain ⟨C', CT', g1, g2, g3⟩ := h _ m1 _ m2
  rw [h1] at g1
  rw [h2] at g2
  cases g1; cases g2
  exact g3
theorem isb_of {T : String} {tab : List (Str × Bool)} (h : ∀ p ∈ tab, PairB K mg p.1 T p.2) : ∀ c b C, tab.lookup c = some b → mg c = some (.ref C) → ExcC K C ∧ PySem.W.kitOne K (.ref C) (.type T) = some b := by
  intro c b C e h1
  obtain ⟨C', g1, g2, g3⟩ := h _ (lookup_mem e)
  rw [h1] at g1
  cases g1
  exact ⟨g2, g3⟩
theorem fld_of {tab : List (Str × List Str)} (h : ∀ p ∈ tab, ∀ f ∈ p.2, FldOk K mg p.1 f) : ∀ c f C, ((tab.lookup c).any (·.contains f)) = true → mg c = some (.ref C) → XfC K C ∧ PySem.W.findIn K (.ref C) f = some none := by
  intro c f C e h1
  cases h2 : tab.lookup c with
  | none => rw [h2] at e; cases e
  | some l =>
    rw [h2] at e
    have e : l.contains f = true := e
    obtain ⟨C', g1, g2, g3⟩ := h _ (lookup_mem h2) f (by simpa using e)
    rw [h1] at g1
    cases g1
    exact ⟨g2, g3⟩
theorem tabIn_of {x : Str} {g c P : Addr} {oc oc' : Value} {od od' : Option Addr} {fd : FuncData} {sl sl' : Array (Option Value)} {vs : Array Value} (a : PySem.W.nsIn K mainGlobals x = some (some (.ref g))) (l : K.lookup g = some ⟨oc, od, .func fd, sl⟩) (hc : fd.code = .ref c) (lc : K.lookup c = some ⟨oc', od', .fields vs, sl'⟩) (hv : vs[11]? = some (.ref P)) : PySem.W.tabIn K x = some (c, P) := by
  unfold PySem.W.tabIn
  rw [a]
  simp only [l, hc, lc, hv]
theorem tabIn_none {x : Str} (a : PySem.W.nsIn K mainGlobals x = some none) : PySem.W.tabIn K x = none := by
  unfold PySem.W.tabIn
  rw [a]
/-- the tables of a law -/
theorem lawTabs_of {ls : List (Str × Addr × Addr)} (h : lamNames.filterMap (fun x => (PySem.W.tabIn K x).map fun cp => (x, cp.1, cp.2)) = ls) : LawTabs K = ls.map fun e => (e.2.2, ((e.1 ++ ".<locals>.") ++ "<lambda>" : Str)) := by
  subst h
  unfold LawTabs
  generalize lamNames = l
  induction l with
  | nil => rfl
  | cons x l ih =>
    simp only [List.filterMap_cons]
    cases h : PySem.W.tabIn K x with
    | none => simpa using ih
    | some cp => simpa using ih
end
section
variable {P : Program} {w : World} {K : PySem.W.Frag} {mg : Str → Option Value} {base : Heap} {n k k' : Nat} {x : Str} {F : Fn}
theorem XR.hu65 {X : Cx} (xr : XR k X) : X.A.units + 65 < cLine := Nat.lt_of_le_of_lt (Nat.add_le_add_left (by decide) _) xr.hu2
theorem uMg {y q : Str} {st : Stmt} (h : ∃ f fd, Fun K y q st f fd ∧ mg y = some (.ref f)) : ∃ f : Addr, mg y = some (.ref f) := by
  obtain ⟨f, _, _, h⟩ := h
  exact ⟨f, h⟩
theorem Cal.up (C : Cal P w K mg base x n k F) (h : k ≤ k') : Cal P w K mg base x n k' F := by
  obtain ⟨f, fd, ps, hm, hk, hb, G⟩ := C
  exact ⟨f, fd, ps, hm, hk, hb, G.up h⟩
theorem tv_nil : ∀ (y : Str) (F : Fn), ([] : List (Str × Fn)).lookup y = some F → Cal P w K mg base y n k F := fun _ _ h => nomatch h
theorem tv_cons {tab : List (Str × Fn)} (C : Cal P w K mg base x n k F) (T : ∀ (y : Str) (F : Fn), tab.lookup y = some F → Cal P w K mg base y n k F) : ∀ (y : Str) (G : Fn), ((x, F) :: tab).lookup y = some G → Cal P w K mg base y n k G := by
  intro y G h
  rw [List.lookup_cons] at h
  split at h
  · rename_i e
    have e := beq_iff_eq.mp e
    cases h
    rw [e]
    exact C
  · exact T y G h
end
/-! ### tuples of numbers, written at the top -/
def TupIs (K : PySem.W.Frag) (mg : Str → Option Value) (x : Str) (ns : List Int) : Prop := ∃ (a : Addr) (o : Obj) (its : Array Value) (n : Nat), mg x = some (.ref a) ∧ K.lookup a = some o ∧ o.cls = .type "tuple" ∧ o.data = .seq its n ∧ its.size ≤ sizeLine ∧ Vals (ns.map V.int) its.toList
theorem repL_ofInts {K : PySem.W.Frag} {mg : Str → Option Value} {H : Hp} : ∀ ns : List Int, RepL K mg H (ns.map V.int) (ns.map D.int)
  | [] => .nil
  | n :: ns => .cons (.int n) (repL_ofInts ns)
theorem tr_constT {X : Cx} {W : WX} {x : Str} {pos : Pos} {ns : List Int} (h : TupIs X.K X.mg x ns) (hg : Gl X x := by rfl) (hd : (x == ("__debug__" : Str)) = false := by decide) : TrE X W (.Name x pos) (mC (.tup (ns.map .int))) := by
  obtain ⟨a, o, its, n, hm, h1, h2, h3, h4, h5⟩ := h
  exact fun B ρ τ σ H Q ⟨Hk, w, h⟩ q => ⟨_, pe_glob hg hm (v := .ref a) rfl hd, q _ H ⟨Hk, w, h.push (.tup (.inr ⟨o, its, n, h1, h2, h3, h4, h5⟩) (repL_ofInts ns))⟩⟩
end Vy
/-! ### more programs on data, run by simp -/
namespace Vy
open PySem PySem.Spec PyProof.Rows L2
section
variable {α β : Type} {ρ ρ' ρ1 : State} {i j l : Nat} {d d' x y z : D} {r : R} {c T f : Str} {ns : List Str} {ds : List D}
@[simp] theorem ev_raise : mRaise c ρ = .ex c [] [] ρ := (rfl)
@[simp] theorem ev_raise1 (m : M R) : mRaise1 c f m ρ = (m ρ).then fun r => if flatD r.d then fun ρ => .ex c [f] [r.d] ρ else M.fail := by
  unfold mRaise1
  cases m ρ with
  | ok r ρ' => show (if _ then _ else _) = (if _ then _ else _ : M Fl) ρ'; split <;> rfl
  | ex _ _ _ _ => rfl
  | er => rfl
@[simp] theorem ev_flatI {a : Int} : flatD (.int a) = true := (rfl)
@[simp] theorem ev_flatS {s : Str} : flatD (.str s) = true := (rfl)
theorem ev_liftX {F : Fn} {args : State} (h : ∃ ρ', F args = .ex c ns ds ρ') : liftF F args ρ = .ex c ns ds ρ := by
  obtain ⟨ρ', h⟩ := h
  unfold liftF
  rw [h]
@[simp] theorem ev_rm {T : String} (g : D → List D → Option R) (m : M R) (ms : M (List R)) : mRm T g m ms ρ = (m ρ).then fun r => if tyD T r.d then ms >>= fun rs => M.opt (g r.d (rs.map R.d)) else M.fail := (rfl)
@[simp] theorem ev_tyS {s : Str} : tyD "str" (.str s) = true := beq_self_eq_true "str"
@[simp] theorem ev_tyL {xs : List D} : tyD "list" (.lst xs) = true := beq_self_eq_true "list"
@[simp] theorem ev_m2 (f : D → D → List D → Option (D × List D)) (ma mb : M R) : mM2 i f ma mb ρ = (mPeek i ρ).then fun d => match d with
  | .lst _ => ma >>= fun r => mb >>= fun r2 => upS i (f r.d r2.d)
  | _ => M.fail := (rfl)
@[simp] theorem ev_aug (m : M R) : mAug i m ρ = (mPeek i ρ).then fun d => m >>= fun r => augK i d r.d := (rfl)
@[simp] theorem ev_augK {a b : Int} : augK i (.int a) (.int b) = (M.sto (put i (.cl (.int (a + b)))) >>= fun _ => pure .nx) := (rfl)
@[simp] theorem ev_callV (tab : List (Str × Fn)) (ms : M (List R)) : mCallV i tab ms ρ = (mPeek i ρ).then fun d => match d with
  | .fn x => match tab.lookup x with
    | some F => ms >>= fun rs => liftF F (rs.map fun r => .va r.d)
    | none => M.fail
  | _ => M.fail := (rfl)
@[simp] theorem ev_isX {b : Bool} (h : ρ[i]? = some (.va y)) : mIsX i y (some b) ρ = .ok (.cl (.bl b)) ρ := by
  unfold mIsX
  rw [if_pos h]
@[simp] theorem ev_fx {a dd : Addr} {n : Str} (h : ρ[i]? = some (.va (.exc a dd n z))) : mFx i (.exc a dd n z) n true ρ = .ok (.cl z) ρ := by
  unfold mFx
  rw [if_pos ⟨h, rfl⟩]
  simp
@[simp] theorem ev_oraR (h : ρ[0]? = some (.va x)) : mOra x (.ok r ρ1) ρ = .ok r ρ := by
  unfold mOra
  rw [if_pos h]
@[simp] theorem ev_oraX (h : ρ[0]? = some (.va x)) : mOra x (.ex c ns ds ρ1) ρ = .ex c ns ds ρ := by
  unfold mOra
  rw [if_pos h]
/-! try -/
theorem ev_tryR {cat : Str → Option Bool} {mb : M Fl} {ms : Str → D → M Fl} {fl : Fl} (h : mb ρ = .ok fl ρ') : mTry i cat mb ms ρ = .ok fl ρ' := by
  unfold mTry
  rw [h]
theorem ev_tryX {cat : Str → Option Bool} {mb : M Fl} {ms : Str → D → M Fl} {res : Res Fl} (h : mb ρ = .ex c ns ds ρ') (hc : cat c = some true) (x0 : D) (h0 : IsX ns ds x0) (hx : ∀ x, IsX ns ds x → wipeF i (mSuite i (ms c) x ρ') = res) : mTry i cat mb ms ρ = res := by
  unfold mTry
  rw [h]
  simp only [hc]
  exact ev_same x0 h0 hx
theorem ev_tryN {cat : Str → Option Bool} {mb : M Fl} {ms : Str → D → M Fl} (h : mb ρ = .ex c ns ds ρ') (hc : cat c = some false) : mTry i cat mb ms ρ = .ex c ns ds ρ' := by
  unfold mTry
  rw [h]
  simp only [hc]
/-! lambdas -/
theorem ev_told {n : Nat} {m : M R → M Fl} {o : Res R} (h : ∀ x, IsClo x → ∃ ρ', bodyF n (m (mOra x o)) [.va x] = .ok r ρ') : gTold n m o = .ok r [] := by
  unfold gTold
  refine ev_same (.clo 0 0 Str.empty [] [] []) ⟨_, _, _, _, _, _, rfl⟩ fun x hx => ?_
  obtain ⟨ρ', h⟩ := h x hx
  unfold noExR
  rw [h]
theorem ev_lam {is : List Nat} {n : Nat} {m : M R → M Fl} {mb : M R} {xs : List D} {o : Res R} (h1 : fixAll is ρ = some (ρ1, xs)) (h2 : bare (mb (seen ρ.length is xs)) = o) (h3 : ∃ ρr, gTold n m o = .ok r ρr) : mLam is n m mb ρ = .ok r ρ1 := by
  obtain ⟨ρr, h3⟩ := h3
  unfold mLam
  rw [h1]
  simp only [h2, h3]
@[simp] theorem ev_bareX : bare (.ex c ns ds ρ) = .ex c ns ds [] := (rfl)
@[simp] theorem ev_bareR : bare (.ok r ρ) = .ok r [] := (rfl)
@[simp] theorem ev_fix0 : fixAll [] ρ = some (ρ, []) := (rfl)
@[simp] theorem ev_fix1 {is : List Nat} : fixAll (i :: is) ρ = match ρ[i]? with
  | some (.va d) => (fixAll is ρ).map fun p => (p.1, d :: p.2)
  | some (.ow d) => (fixAll is (ρ.set i (.va d))).map fun p => (p.1, d :: p.2)
  | _ => none := (rfl)
@[simp] theorem ev_seen0 {n : Nat} : seen n [] ds = List.replicate n .no := by cases ds <;> rfl
@[simp] theorem ev_seen1 {n : Nat} {is : List Nat} : seen n (i :: is) (d :: ds) = (seen n is ds).set i (.va d) := (rfl)
/-! the operators -/
variable {a b : Int}
@[simp] theorem ev_ltAI : dLtA (.int a) (.int b) = some (bR (decide (a < b))) := (rfl)
@[simp] theorem ev_leAI : dLeA (.int a) (.int b) = some (bR (decide (a ≤ b))) := (rfl)
@[simp] theorem ev_gtAI : dGtA (.int a) (.int b) = some (bR (decide (a > b))) := (rfl)
@[simp] theorem ev_geAI : dGeA (.int a) (.int b) = some (bR (decide (a ≥ b))) := (rfl)
theorem ev_join {s : Str} {ts : List Str} (h : (ts.map (·.length)).sum + ts.length * s.length ≤ 16777216) : dJoin (.str s) [.lst (ts.map .str)] = some (.cl (.str (Txt.join s ts))) := by
  unfold dJoin
  simp only [strsOf_map, h, if_true]
theorem ev_mulS {s : Str} (h0 : 0 ≤ a) (h1 : a ≤ 1000) (h2 : s.length ≤ 1000) : dMul (.str s) (.int a) = some (.cl (.str (Txt.mul s a))) := by
  simp only [dMul, h0, h1, h2, and_self, if_true]
end
end Vy
namespace Vy
open PySem PySem.Spec PyProof.Rows L2
theorem pyL_ints : ∀ ns : List Int, pyL (ns.map D.int) = some (ns.map PyData.int)
  | [] => rfl
  | n :: ns => by
    have e : (D.int n).py = some (.int n) := rfl
    simp only [List.map_cons, pyL, e, pyL_ints ns]
theorem okAll_ints (ns : List Int) : okAll (ns.map PyData.int) = true := by
  unfold okAll
  rw [List.all_eq_true]
  intro p hp
  obtain ⟨n, _, rfl⟩ := List.mem_map.mp hp
  simp only [Bool.and_eq_true, List.all_eq_true, Bool.not_eq_true']
  refine ⟨⟨rfl, rfl⟩, fun q hq => ?_⟩
  obtain ⟨m, _, rfl⟩ := List.mem_map.mp hq
  rfl
theorem depth_ints : ∀ ns : List Int, PyData.depthAll (ns.map PyData.int) = 0
  | [] => rfl
  | n :: ns => by
    simp only [List.map_cons, PyData.depthAll, depth_ints ns, PyData.depth, Nat.max_self]
theorem ev_minT (n : Int) (ns : List Int) : dMinA (.tup (.int n :: ns.map D.int)) = some (.cl (.int (ns.foldl min n))) := by
  have e1 : pyL (.int n :: ns.map D.int) = some (.int n :: ns.map PyData.int) := pyL_ints (n :: ns)
  have e2 : okAll (.int n :: ns.map PyData.int) = true := okAll_ints (n :: ns)
  have e3 : PyData.depthAll (.int n :: ns.map PyData.int) = 0 := depth_ints (n :: ns)
  show bestG PySem.W.minD (.int n :: ns.map D.int) = _
  unfold bestG
  rw [e1]
  simp only [e2, e3, PySem.W.minD_ints, dOf]
  rfl
theorem pyL_strs : ∀ ns : List Str, pyL (ns.map D.str) = some (ns.map PyData.str)
  | [] => rfl
  | n :: ns => by
    have e : (D.str n).py = some (.str n) := rfl
    simp only [List.map_cons, pyL, e, pyL_strs ns]
theorem lay_strs : ∀ ns : List Str, PyData.canLayAll0 (ns.map PyData.str) = ns.all PyData.strOk
  | [] => rfl
  | n :: ns => by simp only [List.map_cons, PyData.canLayAll0, lay_strs ns, PyData.canLay0, List.all_cons]
theorem dep_strs : ∀ ns : List Str, PyData.depthAll (ns.map PyData.str) = 0
  | [] => rfl
  | n :: ns => by simp only [List.map_cons, PyData.depthAll, dep_strs ns, PyData.depth, Nat.max_self]
theorem eqv_strs : ∀ ns : List Str, PyData.eqvAll (ns.map PyData.str) (ns.map PyData.str) = true
  | [] => by simp [PyData.eqvAll]
  | n :: ns => by simp only [List.map_cons, PyData.eqvAll, eqv_strs ns, PyData.eqv, Bool.and_true]; simp
theorem ne_strs (ns : List Str) (h : ns.all PyData.strOk = true) : dNe (.lst (ns.map D.str)) (.lst (ns.map D.str)) = some (.cl (.bl false)) := by
  have hs : SeqAt.shaped (.list (ns.map PyData.str)) = true := by
    unfold SeqAt.shaped
    simp [PyData.canLay0, lay_strs, h, PyData.depth, dep_strs]
  have e : dEqB (.lst (ns.map D.str)) (.lst (ns.map D.str)) = some true := by
    unfold dEqB
    simp only [D.py, pyL_strs, Option.map_some, hs, Bool.and_self, if_true, PyData.eqv, eqv_strs]
  unfold dNe
  rw [e]
  rfl
theorem eq_strs (ns : List Str) (h : ns.all PyData.strOk = true) : dEq (.lst (ns.map D.str)) (.lst (ns.map D.str)) = some (.cl (.bl true)) := by
  have hs : SeqAt.shaped (.list (ns.map PyData.str)) = true := by
    unfold SeqAt.shaped
    simp [PyData.canLay0, lay_strs, h, PyData.depth, dep_strs]
  have e : dEqB (.lst (ns.map D.str)) (.lst (ns.map D.str)) = some true := by
    unfold dEqB
    simp only [D.py, pyL_strs, Option.map_some, hs, Bool.and_self, if_true, PyData.eqv, eqv_strs]
  unfold dEq
  rw [e]
  rfl
end Vy
namespace Vy
open PySem PySem.Spec PyProof.Rows L2
open Evl (Ex)
/-! ### an own list that is only looked at -/
section
variable {K : PySem.W.Frag} {mg : Str → Option Value} {B : Bs} {Hk H : Hp} {w : Addr → Option Own} {ρ : State} {τ : List (V × R)} {σ : L2.St} {v u : V} {r s : R} {d : D} {i : Nat}
theorem StI.swap (h : StI K mg B Hk w ρ ((v, r) :: (u, s) :: τ) σ H) : ∃ w', StI K mg B Hk w' ρ ((u, s) :: (v, r) :: τ) σ H := by
  let n := τ.length
  have t1 : TempOk K mg B Hk H w (n + 1) v r := h.temps.1
  have t2 : TempOk K mg B Hk H w n u s := h.temps.2.1
  let w' : Addr → Option Own := fun q => if w q = some (.t (n + 1)) then some (.t n) else if w q = some (.t n) then some (.t (n + 1)) else w q
  have keep : ∀ q y, y ≠ Own.t (n + 1) → y ≠ Own.t n → w q = some y → w' q = some y := fun q y n1 n2 hq => by
    show (if w q = some (.t (n + 1)) then some (.t n) else if w q = some (.t n) then some (.t (n + 1)) else w q) = some y
    rw [if_neg (by rw [hq]; intro z; exact n1 (Option.some.inj z)), if_neg (by rw [hq]; intro z; exact n2 (Option.some.inj z))]
    exact hq
  refine ⟨w', h.len, h.e0, h.e1, h.fr, h.nk, h.live, fun j x sl e1 e2 => (h.slots j x sl e1 e2).up (fun _ _ z => z) fun q a b c => ⟨keep q _ (by simp) (by simp) a, c, fun _ z => z⟩, ?_, ?_, h.temps.2.2.up (fun _ _ z => z) fun m q hm a b c => ⟨keep q _ (fun z => by cases z; exact absurd hm (by show ¬ n + 1 < n; omega)) (fun z => by cases z; exact absurd hm (by show ¬ n < n; omega)) a, c, fun _ z => z⟩⟩
  · show TempOk K mg B Hk H w' (n + 1) u s
    cases s with
    | cl d => exact t2
    | fr d =>
      obtain ⟨p, e, hw, a, b, c⟩ := t2
      refine ⟨p, e, ?_, a, b, c⟩
      show (if w p = some (.t (n + 1)) then some (.t n) else if w p = some (.t n) then some (.t (n + 1)) else w p) = _
      rw [if_neg (by rw [hw]; intro z; cases z), if_pos hw]
  · show TempOk K mg B Hk H w' n v r
    cases r with
    | cl d => exact t1
    | fr d =>
      obtain ⟨p, e, hw, a, b, c⟩ := t1
      refine ⟨p, e, ?_, a, b, c⟩
      show (if w p = some (.t (n + 1)) then some (.t n) else if w p = some (.t n) then some (.t (n + 1)) else w p) = _
      rw [if_pos hw]
theorem StI.takeO (h : StI K mg B Hk w ρ τ σ H) (e : ρ[i]? = some (.ow d)) : ∃ p w', σ[i]? = some (some (.ref p)) ∧ Cont K mg Hk H p d ∧ StI K mg B Hk w' (ρ.set i .no) ((.ref p, .fr d) :: τ) σ H := by
  have hl : i < ρ.length := (List.getElem?_eq_some_iff.mp e).1
  obtain ⟨x, hx, hs⟩ := slot_at h e
  obtain ⟨p, rfl, hw, hk, h0, hc⟩ := hs
  have keep : ∀ q y, y ≠ Own.s i → w q = some y → (if q = p then some (Own.t τ.length) else w q) = some y := fun q y ny hq => by
    rw [if_neg (fun z => by subst z; rw [hw] at hq; cases hq; exact ny rfl)]
    exact hq
  refine ⟨p, fun q => if q = p then some (.t τ.length) else w q, hx, hc, by simpa using h.len, h.e0, h.e1, h.fr, h.nk, h.live, fun j x sl e1 e2 => ?_, ⟨p, rfl, if_pos rfl, hk, h0, hc⟩, h.temps.up (fun _ _ z => z) fun m q hm a b c => ⟨keep q _ (by simp) a, c, fun _ z => z⟩⟩
  by_cases hj : i = j
  · subst hj
    rw [List.getElem?_set_self hl] at e2
    cases e2
    trivial
  · rw [List.getElem?_set_ne hj] at e2
    exact (h.slots j x sl e1 e2).up (fun _ _ z => z) fun q a b c => ⟨keep q _ (by simp; omega) a, c, fun _ z => z⟩
theorem St.putBack {p : Addr} {ds : List D} (h : St K mg B ρ ((v, r) :: (.ref p, .fr (.lst ds)) :: τ) σ H) (e : σ[i]? = some (some (.ref p))) : St K mg B (ρ.set i (.ow (.lst ds))) ((v, r) :: τ) σ H := by
  obtain ⟨Hk, w, h⟩ := h
  obtain ⟨w1, h1⟩ := h.swap
  obtain ⟨w2, h2⟩ := h1.store (i := i)
  have es : σ.set i (some (.ref p)) = σ := by
    obtain ⟨hl, hv⟩ := List.getElem?_eq_some_iff.mp e
    rw [← hv]
    exact List.set_getElem_self hl
  rw [es] at h2
  exact ⟨Hk, w2, h2⟩
end
/-- [.. for .. in x ..], x an own list that stays so -/
def mLcO (is : List Nat) (i : Nat) (g : Tg) (mt : M Bool) (me : M R) : M R := fun ρ => match ρ[i]? with
  | some (.ow (.lst ds)) => (match lcL is g mt me ds [] (ρ.set i .no) with
    | .ok r ρ' => .ok r (ρ'.set i (.ow (.lst ds)))
    | _ => .er)
  | some (.va d) => (match itemsOf d with
    | some ds => lcL is g mt me ds [] ρ
    | none => .er)
  | _ => .er
section
variable {X : Cx} {W : WX} {tg elt : Expr} {ifs : List Expr} {scope : Scope} {is js : List Nat} {mi : M (List D)} {g : Tg} {mt : M Bool} {me : M R}
theorem lc_readT {iter : Expr} (hg : ∀ s H C cl fp, TrGb (Bk X scope s H C cl fp) tg g js) (ht : ∀ s H C cl fp, TrP (Bk X scope s H C cl fp) WF ifs mt) (he : ∀ s H C cl fp, TrE (Bk X scope s H C cl fp) WF elt me) (hj : ∀ j ∈ js, j ∈ is) {B : Bs} {ρ1 : State} {τ : List (V × R)} {σ : L2.St} {H1 : Hp} {Q : VK}
    {J : It} {T : List (V × R)} {items : List D} (ho : ItOk X.K X.mg B J T items) (h1 : St X.K X.mg B ρ1 (T ++ τ) σ H1) (q : PostE X.K X.mg B W (T ++ τ) σ Q (lcL is g mt me items [] ρ1)) :
    ∀ D, H1 D = none → ∃ W : Nat → Nat → Hp → Prop, (∃ m, W 0 m (upd H1 D (.lst []))) ∧ ∀ i m H, W i m H →
  (J.stop i H ∧ Q (.ref D) H) ∨ (J.go i H ∧ ∃ Nx : Hp → Prop, (∀ H', Nx H' → ∃ m', m' < m ∧ W (i + 1) m' H') ∧ ∀ x H', J.yld i H x H' → EvG X scope tg x (L2.wipe σ is) H' fun σ2 H2 => L2.wipe σ2 is = L2.wipe σ is ∧ EvP X scope ifs σ2 H2 fun b H3 =>
    if b = true then EvE X scope elt σ2 H3 fun y H4 => ∃ acc, H4 D = some (.lst acc) ∧ acc.length < sizeLine ∧ Nx (upd H4 D (.lst (acc ++ [y]))) else Nx H3) := by
  obtain ⟨Hk1, w1, hI1⟩ := h1
  intro Dl hD
  have s0 : St X.K X.mg B (wipeR ρ1 is) ((.ref Dl, .fr (.lst [])) :: (T ++ τ)) (L2.wipe σ is) (upd H1 Dl (.lst [])) := ⟨_, _, (hI1.wipe (is := is)).laidO hD ⟨_, upd_same, .nil⟩⟩
  refine ⟨fun i m H => m = items.length - i ∧ i ≤ items.length ∧ ∃ ρ acc, St X.K X.mg B (wipeR ρ is) ((.ref Dl, .fr (.lst acc)) :: (T ++ τ)) (L2.wipe σ is) H ∧ PostE X.K X.mg B W (T ++ τ) σ Q (lcL is g mt me (items.drop i) acc ρ),
    ⟨items.length, by simp, by omega, ρ1, [], s0, q⟩, ?_⟩
  rintro i m H2 ⟨rfl, hi, ρ2, acc, hs2, q2⟩
  obtain ⟨o1, o2⟩ := ho i (wipeR ρ2 is) [(.ref Dl, .fr (.lst acc))] τ (L2.wipe σ is) H2 hs2
  by_cases hlt : i < items.length
  · refine .inr ?_
    have hd := List.getElem?_eq_getElem hlt
    obtain ⟨go, step⟩ := o1 _ hd
    rw [get_drop hd] at q2
    have e0 : lcL is g mt me (items[i] :: items.drop (i + 1)) acc ρ2 = (match g items[i] (wipeR ρ2 is) with
      | none => .er
      | some ρ1 => (noEx mt >>= fun b => if b then noEx me >>= fun r => if acc.length < sizeLine then lcL is g mt me (items.drop (i + 1)) (acc ++ [r.d]) else M.fail else lcL is g mt me (items.drop (i + 1)) acc) ρ1) := rfl
    rw [e0] at q2
    cases hgd : g items[i] (wipeR ρ2 is) with
    | none => rw [hgd] at q2; exact q2.elim
    | some ρ3 =>
      rw [hgd] at q2
      have q2 : PostE X.K X.mg B W (T ++ τ) σ Q ((noEx mt ρ3).then fun b => if b then noEx me >>= fun r => if acc.length < sizeLine then lcL is g mt me (items.drop (i + 1)) (acc ++ [r.d]) else M.fail else lcL is g mt me (items.drop (i + 1)) acc) := q2
      refine ⟨go, fun H' => ∃ ρ' acc', St X.K X.mg B (wipeR ρ' is) ((.ref Dl, .fr (.lst acc')) :: (T ++ τ)) (L2.wipe σ is) H' ∧ PostE X.K X.mg B W (T ++ τ) σ Q (lcL is g mt me (items.drop (i + 1)) acc' ρ'), fun H' h => ⟨items.length - (i + 1), by omega, rfl, by omega, h⟩, fun x H' hy => ?_⟩
      have hs3 := step x H' hy
      intro s0 H0 C cl fp
      refine hg s0 H0 C cl fp B _ ρ3 ((.ref Dl, .fr (.lst acc)) :: (T ++ τ)) (L2.wipe σ is) H' x _ _ hs3 hgd fun σ4 H4 off hs4 => ?_
      have ew : L2.wipe σ4 is = L2.wipe σ is := by
        rw [wipe_off off hj]
        exact wipe_off (js := is) ⟨wipe_length σ is, fun j hj => wipe_out hj⟩ (fun _ z => z)
      refine ⟨ew, ?_⟩
      intro s0 H0 C cl fp
      refine ht s0 H0 C cl fp B ρ3 _ σ4 H4 _ hs4 ?_
      cases h2 : mt ρ3 with
      | er => rw [show noEx mt ρ3 = .er by unfold noEx; rw [h2]] at q2; exact q2.elim
      | ex c ns ds ρ' => rw [show noEx mt ρ3 = .er by unfold noEx; rw [h2]] at q2; exact q2.elim
      | ok b ρ5 =>
        rw [show noEx mt ρ3 = .ok b ρ5 by unfold noEx; rw [h2]] at q2
        intro H5 hs5
        cases b with
        | false =>
          rw [if_neg (by decide)]
          have hs6 := hs5.wiped (is := is)
          rw [ew] at hs6
          exact ⟨ρ5, acc, hs6, q2⟩
        | true =>
          rw [if_pos rfl]
          intro s0 H0 C cl fp
          refine he s0 H0 C cl fp B ρ5 _ σ4 H5 _ hs5 ?_
          have q3 : PostE X.K X.mg B W (T ++ τ) σ Q ((noEx me ρ5).then fun r => if acc.length < sizeLine then lcL is g mt me (items.drop (i + 1)) (acc ++ [r.d]) else M.fail) := q2
          cases h3 : me ρ5 with
          | er => rw [show noEx me ρ5 = .er by unfold noEx; rw [h3]] at q3; exact q3.elim
          | ex c ns ds ρ' => rw [show noEx me ρ5 = .er by unfold noEx; rw [h3]] at q3; exact q3.elim
          | ok r ρ6 =>
            rw [show noEx me ρ5 = .ok r ρ6 by unfold noEx; rw [h3]] at q3
            intro v H6 ⟨Hk, w, hI⟩
            obtain ⟨Hk', ek, hI'⟩ := hI.clean
            have rv : Rep X.K X.mg Hk' v r.d := hI'.temps.1
            obtain ⟨p, ep, ⟨xs, hx, rx⟩, hm⟩ := hI'.pop.mutT (d' := .lst (acc ++ [r.d]))
            cases ep
            by_cases hz : acc.length < sizeLine
            · have q4 : PostE X.K X.mg B W (T ++ τ) σ Q ((if acc.length < sizeLine then lcL is g mt me (items.drop (i + 1)) (acc ++ [r.d]) else M.fail : M R) ρ6) := q3
              rw [if_pos hz] at q4
              refine ⟨xs, hx, by rw [rx.len]; exact hz, ρ6, acc ++ [r.d], ?_, q4⟩
              have hI7 := hm (.lst (xs ++ [v])) ⟨_, upd_same, rx.app (.cons rv .nil)⟩
              have hs8 : St X.K X.mg B (wipeR ρ6 is) ((.ref Dl, .fr (.lst (acc ++ [r.d]))) :: (T ++ τ)) (L2.wipe σ4 is) (upd H6 Dl (.lst (xs ++ [v]))) := St.wiped ⟨Hk', w, hI7⟩
              rw [ew] at hs8
              exact hs8
            · have q4 : PostE X.K X.mg B W (T ++ τ) σ Q ((if acc.length < sizeLine then lcL is g mt me (items.drop (i + 1)) (acc ++ [r.d]) else M.fail : M R) ρ6) := q3
              rw [if_neg hz] at q4
              exact q4.elim
  · have e : i = items.length := by omega
    subst e
    rw [List.drop_length] at q2
    exact .inl ⟨o2 (Nat.le_refl _), q2 _ _ hs2.unwiped⟩
theorem lcO_read {is js : List Nat} {x : Str} {i : Nat} {ip : Pos} (hg : ∀ s H C cl fp, TrGb (Bk X scope s H C cl fp) tg g js) (ht : ∀ s H C cl fp, TrP (Bk X scope s H C cl fp) WF ifs mt) (he : ∀ s H C cl fp, TrE (Bk X scope s H C cl fp) WF elt me) (hj : ∀ j ∈ js, j ∈ is)
    (hN : X.N[i]? = some x) (hv : Vis X.env.scope x) (hd : (x == ("__debug__" : Str)) = false) (hcd : (x == ("__classdict__" : Str)) = false) {B : Bs} {ρ : State} {τ : List (V × R)} {σ : L2.St} {H : Hp} {Q : VK} (hst : St X.K X.mg B ρ τ σ H) (q : PostE X.K X.mg B W τ σ Q (mLcO is i g mt me ρ)) :
    tLc (AnyI X tg (.Name x ip)) (EvG X scope tg) (EvP X scope ifs) (EvE X scope elt) is σ H Q := by
  unfold mLcO at q
  split at q
  · rename_i ds h0
    obtain ⟨Hk, w, h⟩ := hst
    obtain ⟨p, w', hp, ⟨xs, hx, rx⟩, h2⟩ := h.takeO h0
    refine ⟨iList X.K (tVar i), pi_list (pe_var hN hv hd hcd), _, hp, p, rfl, ⟨xs, SqL.of hx⟩, ?_⟩
    refine lc_readT (iter := .Name x ip) (W := W) (T := [(.ref p, .fr (.lst ds))]) (τ := τ) (ρ1 := ρ.set i .no) (items := ds) hg ht he hj (it_list rfl) ⟨Hk, w', h2⟩ ?_
    cases h1 : lcL is g mt me ds [] (ρ.set i .no) with
    | er => rw [h1] at q; exact q.elim
    | ex _ _ _ _ => rw [h1] at q; exact q.elim
    | ok r ρ' =>
      rw [h1] at q
      exact fun v H' hs' => q v H' (St.putBack hs' hp)
  · rename_i d h0
    split at q
    · rename_i ds hd2
      have q2 : PostE X.K X.mg B W τ σ Q (mLc is (mIt (mC d)) g mt me ρ) := by
        show PostE X.K X.mg B W τ σ Q (((M.opt (itemsOf d) : M (List D)) ρ).then fun ds => lcL is g mt me ds [])
        rw [hd2]
        exact q
      have q3 : mLc is (mIt (mVar i)) g mt me ρ = mLc is (mIt (mC d)) g mt me ρ := by
        show ((mVar i ρ).then fun r => M.opt (itemsOf r.d)).then _ = _
        unfold mVar
        rw [h0]
        rfl
      rw [← q3] at q2
      exact lc_read (tri_it (tr_var hN hv hd hcd)) hg ht he hj hst q2
    · exact q.elim
  · exact q.elim
/-- [.. for .. in x ..], x a name -/
theorem tr_lcO {own : List (Str × Nat)} {x : Str} {i : Nat} {ip pos : Pos} (ok : BlkOk X.N X.env.scope scope own) (hc : X.calm = true) (xn : X.N.Nodup)
    (hg : ∀ s H C cl fp, TrGb (Bk X scope s H C cl fp) tg g js) (ht : ∀ s H C cl fp, TrP (Bk X scope s H C cl fp) WF ifs mt) (he : ∀ s H C cl fp, TrE (Bk X scope s H C cl fp) WF elt me) (hj : ∀ j ∈ js, j ∈ own.map (·.2) := by decide) (hs : ∀ z, foldedSetIterable (.Name x ip) X.env z = pure z := by intro _; rfl)
    (hN : X.N[i]? = some x := by rfl) (hv : Vis X.env.scope x := by first | exact Or.inl rfl | exact Or.inr (Or.inl rfl) | exact Or.inr (Or.inr rfl)) (hd : (x == ("__debug__" : Str)) = false := by decide) (hcd : (x == ("__classdict__" : Str)) = false := by decide) :
    TrE X W (.ListComp elt [⟨tg, .Name x ip, ifs, 0⟩] scope pos) (mLcO (own.map (·.2)) i g mt me) := fun B ρ τ σ H Q hst q =>
  ⟨_, pe_lc hc xn pi_any ok (fun _ _ _ _ _ => pg_evG) (fun _ _ _ _ _ => pt_evP) (fun _ _ _ _ _ => pe_evE) hs, lcO_read hg ht he hj hN hv hd hcd hst q⟩
/-- name = [.. for .. in x ..] -/
theorem trs_setLcO {own : List (Str × Nat)} {x y : Str} {i l : Nat} {ip pos p' spos : Pos} (ok : BlkOk X.N X.env.scope scope own) (hc : X.calm = true) (xn : X.N.Nodup)
    (hg : ∀ s H C cl fp, TrGb (Bk X scope s H C cl fp) tg g js) (ht : ∀ s H C cl fp, TrP (Bk X scope s H C cl fp) WF ifs mt) (he : ∀ s H C cl fp, TrE (Bk X scope s H C cl fp) WF elt me) (hy : X.N[l]? = some y := by rfl) (hyl : X.env.scope.names.lookup y = some .local := by rfl)
    (hsw : swapsWith (.ListComp elt [⟨tg, .Name x ip, ifs, 0⟩] scope pos) (some (.Name y p')) spos.line X.env = pure true := by exact sw_true rfl rfl rfl (by decide +kernel)) (hj : ∀ j ∈ js, j ∈ own.map (·.2) := by decide) (hs : ∀ z, foldedSetIterable (.Name x ip) X.env z = pure z := by intro _; rfl)
    (hN : X.N[i]? = some x := by rfl) (hv : Vis X.env.scope x := by first | exact Or.inl rfl | exact Or.inr (Or.inl rfl) | exact Or.inr (Or.inr rfl)) (hd : (x == ("__debug__" : Str)) = false := by decide) (hcd : (x == ("__classdict__" : Str)) = false := by decide) :
    TrS X W (.Assign [.Name y p'] (.ListComp elt [⟨tg, .Name x ip, ifs, 0⟩] scope pos) spos) (mSet l (mLcO (own.map (·.2)) i g mt me)) := by
  intro B ρ τ σ H D hst q
  refine ⟨_, ps_setLc hc xn hy hyl hsw pi_any ok (fun _ _ _ _ _ => pg_evG) (fun _ _ _ _ _ => pt_evP) (fun _ _ _ _ _ => pe_evE) hs, ?_⟩
  show tLc (AnyI X tg (.Name x ip)) (EvG X scope tg) (EvP X scope ifs) (EvE X scope elt) (own.map (·.2)) σ H (fun v H1 => gName l v σ H1 D.nx)
  have q : PostS X.K X.mg B W τ D ((mLcO (own.map (·.2)) i g mt me ρ).then fun r => M.sto (put l r) >>= fun _ => pure .nx) := q
  have q2 : PostE X.K X.mg B W τ σ (fun v H1 => gName l v σ H1 D.nx) (mLcO (own.map (·.2)) i g mt me ρ) := by
    cases h1 : mLcO (own.map (·.2)) i g mt me ρ with
    | er => rw [h1] at q; exact q
    | ex c ns ds ρ' => rw [h1] at q; exact q σ
    | ok r ρ1 =>
      rw [h1] at q
      intro v H' hs'
      obtain ⟨ρ2, h2, q⟩ := sto_post q
      exact q _ _ (put_st h2 hs')
  exact lcO_read hg ht he hj hN hv hd hcd hst q2
end
/-! ### x in y, y a name -/
def mOpP (g : D → D → Option R) (ma : M R) (i : Nat) : M R := ma >>= fun x => mPeek i >>= fun d => M.opt (g x.d d)
def OpV (X : Cx) (f : Value → Value → Sem Value) (g : D → D → Option R) : Prop := ∀ B Hk w ρ τ σ H Q v u x y r, StI X.K X.mg B Hk w ρ τ σ H → View X.K X.mg Hk H v x → View X.K X.mg Hk H u y → g x y = some r → (∀ z H', St X.K X.mg B ρ ((z, r) :: τ) σ H' → Q z H') → AnyR X f v u H Q
section
variable {X : Cx} {W : WX} {a : Expr} {ma : M R} {g : D → D → Option R} {x : Str} {i k : Nat} {p pos : Pos}
theorem opv_inA (xr : XR k X) : OpV X (compareOp .In) dInA := by
  intro B Hk w ρ τ σ H Q v u x y r hI v1 v2 e q
  have hu := xr.hu2
  unfold dInA orE at e
  split at e
  · rename_i z hz
    cases e
    obtain ⟨c, hc, rfl⟩ := Option.map_eq_some_iff.mp hz
    obtain ⟨d, ys, ds, h1, rfl, h3, h4, h5, rfl⟩ := in_parts hc
    exact ⟨_, op_inD (by omega), d, ds, v1.dp hI.e1 h1, v2.dp hI.e1 (by simp [D.py, h3]), h4, h5, q _ _ ⟨Hk, w, hI.push (.bl _)⟩⟩
  · obtain ⟨c, hc, rfl⟩ := Option.map_eq_some_iff.mp e
    obtain ⟨d, ds, h1, h2, h3, h4, rfl⟩ := inT_parts hc
    exact ⟨_, op_inT (by omega), d, ds, v1.dp hI.e1 h1, v2.dp hI.e1 h2, h3, h4, q _ _ ⟨Hk, w, hI.push (.bl _)⟩⟩
theorem opv_notInA (xr : XR k X) : OpV X (compareOp .NotIn) dNotInA := by
  intro B Hk w ρ τ σ H Q v u x y r hI v1 v2 e q
  have hu := xr.hu2
  unfold dNotInA orE at e
  split at e
  · rename_i z hz
    cases e
    obtain ⟨c, hc, rfl⟩ := Option.map_eq_some_iff.mp hz
    obtain ⟨d, ys, ds, h1, rfl, h3, h4, h5, rfl⟩ := in_parts hc
    exact ⟨_, op_notInD (by omega), d, ds, v1.dp hI.e1 h1, v2.dp hI.e1 (by simp [D.py, h3]), h4, h5, q _ _ ⟨Hk, w, hI.push (.bl _)⟩⟩
  · obtain ⟨c, hc, rfl⟩ := Option.map_eq_some_iff.mp e
    obtain ⟨d, ds, h1, h2, h3, h4, rfl⟩ := inT_parts hc
    exact ⟨_, op_notInT (by omega), d, ds, v1.dp hI.e1 h1, v2.dp hI.e1 h2, h3, h4, q _ _ ⟨Hk, w, hI.push (.bl _)⟩⟩
theorem opP_read {f : Value → Value → Sem Value} (ho : OpV X f g) (ha : TrE X W a ma) {B : Bs} {ρ : State} {τ : List (V × R)} {σ : L2.St} {H : Hp} {Q : VK} (hs : St X.K X.mg B ρ τ σ H) (q : PostE X.K X.mg B W τ σ Q (mOpP g ma i ρ)) :
    AnyE X a σ H fun v H1 => tVar i σ H1 fun u H2 => AnyR X f v u H2 Q := by
  refine ha B ρ τ σ H _ hs ?_
  have q : PostE X.K X.mg B W τ σ Q ((ma ρ).then fun x => mPeek i >>= fun d => M.opt (g x.d d)) := q
  cases h1 : ma ρ with
  | er => rw [h1] at q; exact q
  | ex c ns ds ρ' => rw [h1] at q; exact q
  | ok r ρ1 =>
    rw [h1] at q
    obtain ⟨d, hd, q⟩ := peek_post q
    obtain ⟨z, hz, k⟩ := post_opt q
    rintro v H' ⟨Hk, w, h⟩
    obtain ⟨u, hu, v2⟩ := h.pop.peek hd
    exact ⟨u, hu, ho B Hk w ρ1 τ σ H' Q v u r.d d z h.pop h.view v2 hz k⟩
theorem tr_cmpP {op : CmpOp} (ho : OpV X (compareOp op) g) (ha : TrE X W a ma) (hm : behindInMarks op (.Name x p) = false := by first | exact nomark _ | rfl) (hN : X.N[i]? = some x := by rfl) (hv : Vis X.env.scope x := by first | exact Or.inl rfl | exact Or.inr (Or.inl rfl) | exact Or.inr (Or.inr rfl)) (hd : (x == ("__debug__" : Str)) = false := by decide) (hcd : (x == ("__classdict__" : Str)) = false := by decide) :
    TrE X W (.Compare a [op] [.Name x p] pos) (mOpP g ma i) := fun B ρ τ σ H Q hs q =>
  ⟨tOp (AnyR X (compareOp op)) (AnyE X a) (tVar i), pe_cmpR op_any pe_any (pe_var hN hv hd hcd) hm, opP_read ho ha hs q⟩
theorem trT_cmpP {op : CmpOp} (ho : OpV X (compareOp op) g) (ha : TrE X W a ma) (hm : behindInMarks op (.Name x p) = false := by first | exact nomark _ | rfl) (hN : X.N[i]? = some x := by rfl) (hv : Vis X.env.scope x := by first | exact Or.inl rfl | exact Or.inr (Or.inl rfl) | exact Or.inr (Or.inr rfl)) (hd : (x == ("__debug__" : Str)) = false := by decide) (hcd : (x == ("__classdict__" : Str)) = false := by decide) :
    TrT X W (.Compare a [op] [.Name x p] pos) (mBool (mOpP g ma i)) := fun B ρ τ σ H Q hs q =>
  ⟨tTest (tOp (AnyR X (compareOp op)) (AnyE X a) (tVar i)), pt_cmpR op_any pe_any (pe_var hN hv hd hcd) hm, opP_read (Q := fun v H => ∃ k, v = .bl k ∧ Q k H) ho ha hs (bool_post q)⟩
end
section
variable {ρ ρ' : State} {i : Nat} {is : List Nat} {g : Tg} {mt : M Bool} {me : M R} {ds : List D} {d : D} {r : R}
@[simp] theorem ev_opP (f : D → D → Option R) (ma : M R) : mOpP f ma i ρ = (ma ρ).then fun x => mPeek i >>= fun d => M.opt (f x.d d) := (rfl)
theorem ev_lcO (h : ρ[i]? = some (.ow (.lst ds))) (e : lcL is g mt me ds [] (ρ.set i .no) = .ok r ρ') : mLcO is i g mt me ρ = .ok r (ρ'.set i (.ow (.lst ds))) := by
  unfold mLcO
  rw [h]
  simp only [e]
theorem ev_lcV (h : ρ[i]? = some (.va d)) (hd : itemsOf d = some ds) : mLcO is i g mt me ρ = lcL is g mt me ds [] ρ := by
  unfold mLcO
  rw [h]
  simp only [hd]
theorem ev_lamX {n : Nat} {m : M R → M Fl} {mb : M R} {xs : List D} {c : Str} {ns : List Str} {es : List D} {nm : D} (h1 : fixAll is ρ = some (ρ, xs)) (h2 : ∃ ρ', mb (seen ρ.length is xs) = .ex c ns es ρ') (h3 : ∃ ρ', gTold n m (.ex c ns es []) = .ok (.cl nm) ρ') : mLam is n m mb ρ = .ok (.cl nm) ρ := by
  obtain ⟨ρ', h2⟩ := h2
  exact ev_lam h1 (o := .ex c ns es []) (by rw [h2]; rfl) h3
/-- two statements at a time -/
theorem seq_two {a b : M Fl} {ρ ρ1 : State} (m : M Fl) (h : mSeq a b ρ = .ok .nx ρ1) : mSeq a (mSeq b m) ρ = m ρ1 := by
  simp only [ev_seq] at h ⊢
  cases ha : a ρ with
  | er => rw [ha] at h; cases h
  | ex _ _ _ _ => rw [ha] at h; cases h
  | ok f ρ2 =>
    rw [ha, ev_then] at h
    cases f with
    | nx =>
      rw [ev_flow] at h
      simp only [ev_then, ev_flow, ev_seq, h]
    | rt _ => cases h
    | bk => cases h
    | ct => cases h
end
end Vy
namespace K87
open PySem PySem.Spec PyProof.Rows L2 Vy
def top (i : Nat) : Stmt := PySem.Challenge.pw_fanrounds_k87_whole_rays_between_and_see.main.body.getD i (.Pass ⟨0, 0, 0, 0⟩)
abbrev s__law_hand : Stmt := top 31
abbrev s_is_integer : Stmt := top 9
abbrev s_is_within : Stmt := top 10
abbrev s_is_dot : Stmt := top 11
abbrev s_common_divisor : Stmt := top 12
abbrev s_is_ray : Stmt := top 13
abbrev s_check_ray : Stmt := top 14
abbrev s_raw_turn : Stmt := top 15
abbrev s_check_corner : Stmt := top 19
abbrev s_half_of : Stmt := top 16
abbrev s_comes_ahead : Stmt := top 17
abbrev s_by_angle : Stmt := top 18
abbrev s_rays_within : Stmt := top 25
abbrev s_sized_rays : Stmt := top 26
abbrev s_simplest : Stmt := top 27
abbrev s_are_dots : Stmt := top 22
abbrev s_is_on_way : Stmt := top 29
abbrev s_is_seen : Stmt := top 28
abbrev s__law_divisor : Stmt := top 35
abbrev s__law_draw : Stmt := top 32
abbrev s__law_ray : Stmt := top 38
abbrev s__law_turn : Stmt := top 34
abbrev s__law_sorted_round : Stmt := top 36
abbrev s__law_between : Stmt := top 39
abbrev s__law_is_corner_right : Stmt := top 40
abbrev s__law_any : Stmt := top 33
abbrev s__law_told : Stmt := top 42
abbrev s__law_deep : Stmt := top 37
abbrev s__law_are_refused : Stmt := top 43
abbrev s__law_is_own_seen : Stmt := top 41
abbrev s_law : Stmt := top 44
def isaT : List (Str × List (Str × Bool)) := [("NoCorner", [("NoCorner", true), ("NoDot", false), ("NoDots", false), ("NoNumber", false), ("NoRay", false)]), ("NoDot", [("NoCorner", false), ("NoDot", true), ("NoDots", false), ("NoNumber", false), ("NoRay", false)]), ("NoDots", [("NoCorner", false), ("NoDot", false), ("NoDots", true), ("NoNumber", false), ("NoRay", false)]), ("NoNumber", [("NoCorner", false), ("NoDot", false), ("NoDots", false), ("NoNumber", true), ("NoRay", false)]), ("NoRay", [("NoCorner", false), ("NoDot", false), ("NoDots", false), ("NoNumber", false), ("NoRay", true)])]
def catT : List (Str × List (Str × Bool)) := [("FanError", [("NoCorner", true), ("NoDot", true), ("NoDots", true), ("NoNumber", true), ("NoRay", true)])]
def fldT : List (Str × List Str) := []
abbrev isA (c T : Str) : Option Bool := ansOf isaT c T
abbrev cat (T c : Str) : Option Bool := ansOf catT T c
abbrev hasF (c f : Str) : Bool := (fldT.lookup c).any (·.contains f)
def isb_ValueError : List (Str × Bool) := [("NoCorner", true), ("NoDot", true), ("NoDots", true), ("NoNumber", true), ("NoRay", true)]
def isAb (c T : Str) : Option Bool := if T = "ValueError" then isb_ValueError.lookup c else none
theorem sc__law_hand : FnScope ["script", "cells", "cell"] ["script"] (defScope s__law_hand) := ⟨rfl, rfl, rfl, by decide +kernel, rfl, by decide +kernel, by decide +kernel⟩
noncomputable def ce0__law_hand : M R := (mRd dAbs (mVal (mRd dInt (mPeek 2))))
noncomputable def st0__law_hand : M Fl := (mSet 1 (mLc [2] (mIt (mSlN 0 mONo (mOSome (mC (.int 63))))) (gSet 2) (pure true) ce0__law_hand))
noncomputable def st1__law_hand : M Fl := (mRet (mLst (mCons (mVar 1) (mCons (mC (.int 0)) (mCons (mC (.int 0)) (mCons (mOp dAdd (mC (.int 4571)) (mOp dMul (mC (.int 7)) (mRd dLen (mPeek 1)))) (mCons (mC (.int 0)) mNil)))))))
noncomputable def m__law_hand : M Fl := (mSeq st0__law_hand st1__law_hand)
noncomputable def f__law_hand : Fn := bodyF 3 m__law_hand
theorem sc_is_integer : FnScope ["thing"] ["thing"] (defScope s_is_integer) := ⟨rfl, rfl, rfl, by decide +kernel, rfl, by decide +kernel, by decide +kernel⟩
noncomputable def m_is_integer : M Fl := (mRet (mAndE (mRd (dIsi "int") (mPeek 0)) (mNotE (mRd (dIsi "bool") (mPeek 0)))))
noncomputable def f_is_integer : Fn := bodyF 1 m_is_integer
theorem sc_is_within : FnScope ["thing", "low", "high"] ["thing", "low", "high"] (defScope s_is_within) := ⟨rfl, rfl, rfl, by decide +kernel, rfl, by decide +kernel, by decide +kernel⟩
noncomputable def m_is_within : M Fl := (mRet (mAndE (mCall f_is_integer (mCons (mVar 0) mNil)) (mChain dLeA dLeA (mVar 1) (mVar 0) (mVar 2))))
noncomputable def f_is_within : Fn := bodyF 3 m_is_within
theorem sc_is_dot : FnScope ["thing", "one"] ["thing"] (defScope s_is_dot) := ⟨rfl, rfl, rfl, by decide +kernel, rfl, by decide +kernel, by decide +kernel⟩
noncomputable def st0_is_dot : M Fl := (mIfS (mOrT (mNotT (mBool (mRd (dIsi "tuple") (mPeek 0)))) (mBool (mOp dNe (mRd dLen (mPeek 0)) (mC (.int 2))))) (mRet (mC (.bl false))) mNx)
noncomputable def ce0_is_dot : M R := (mCall f_is_within (mCons (mVar 1) (mCons (mNeg (mC (.int 10000))) (mCons (mC (.int 10000)) mNil))))
noncomputable def st1_is_dot : M Fl := (mRet (mRd dAll (mVal (mLc [1] (mIt (mVar 0)) (gSet 1) (pure true) ce0_is_dot))))
noncomputable def m_is_dot : M Fl := (mSeq st0_is_dot st1_is_dot)
noncomputable def f_is_dot : Fn := bodyF 2 m_is_dot
theorem sc_common_divisor : FnScope ["one", "other"] ["one", "other"] (defScope s_common_divisor) := ⟨rfl, rfl, rfl, by decide +kernel, rfl, by decide +kernel, by decide +kernel⟩
noncomputable def st0_common_divisor : M Fl := (mPar 0 1 (mCons (mRd dAbs (mPeek 0)) (mCons (mRd dAbs (mPeek 1)) mNil)))
noncomputable def wt0_common_divisor : M Bool := (mBool (mOp dGtA (mVar 1) (mC (.int 0))))
noncomputable def wb0_common_divisor : M Fl := (mPar 0 1 (mCons (mVar 1) (mCons (mOp dMod (mVar 0) (mVar 1)) mNil)))
noncomputable def st1_common_divisor : M Fl := (whileN wt0_common_divisor wb0_common_divisor 200)
noncomputable def st2_common_divisor : M Fl := (mRet (mVarO 0))
noncomputable def m_common_divisor : M Fl := (mSeq st0_common_divisor (mSeq st1_common_divisor st2_common_divisor))
noncomputable def f_common_divisor : Fn := bodyF 2 m_common_divisor
theorem sc_is_ray : FnScope ["thing"] ["thing"] (defScope s_is_ray) := ⟨rfl, rfl, rfl, by decide +kernel, rfl, by decide +kernel, by decide +kernel⟩
noncomputable def m_is_ray : M Fl := (mRet (mAndE (mCall f_is_dot (mCons (mVar 0) mNil)) (mOp dEq (mCall f_common_divisor (mCons (mIxN 0 (mC (.int 0))) (mCons (mIxN 0 (mC (.int 1))) mNil))) (mC (.int 1)))))
noncomputable def f_is_ray : Fn := bodyF 1 m_is_ray
theorem sc_check_ray : FnScope ["thing"] ["thing"] (defScope s_check_ray) := ⟨rfl, rfl, rfl, by decide +kernel, rfl, by decide +kernel, by decide +kernel⟩
noncomputable def m_check_ray : M Fl := (mIfS (mNotT (mBool (mCall f_is_ray (mCons (mVar 0) mNil)))) (mRaise "NoRay") mNx)
noncomputable def f_check_ray : Fn := bodyF 1 m_check_ray
theorem sc_raw_turn : FnScope ["one", "other"] ["one", "other"] (defScope s_raw_turn) := ⟨rfl, rfl, rfl, by decide +kernel, rfl, by decide +kernel, by decide +kernel⟩
noncomputable def m_raw_turn : M Fl := (mRet (mOp dSub (mOp dMul (mIxN 0 (mC (.int 0))) (mIxN 1 (mC (.int 1)))) (mOp dMul (mIxN 0 (mC (.int 1))) (mIxN 1 (mC (.int 0))))))
noncomputable def f_raw_turn : Fn := bodyF 2 m_raw_turn
theorem sc_check_corner : FnScope ["one", "other"] ["one", "other"] (defScope s_check_corner) := ⟨rfl, rfl, rfl, by decide +kernel, rfl, by decide +kernel, by decide +kernel⟩
noncomputable def st0_check_corner : M Fl := (mDrop (mCall f_check_ray (mCons (mVar 0) mNil)))
noncomputable def st1_check_corner : M Fl := (mDrop (mCall f_check_ray (mCons (mVar 1) mNil)))
noncomputable def st2_check_corner : M Fl := (mIfS (mBool (mOp dLeA (mCall f_raw_turn (mCons (mVar 0) (mCons (mVar 1) mNil))) (mC (.int 0)))) (mRaise "NoCorner") mNx)
noncomputable def m_check_corner : M Fl := (mSeq st0_check_corner (mSeq st1_check_corner st2_check_corner))
noncomputable def f_check_corner : Fn := bodyF 2 m_check_corner
theorem sc_half_of : FnScope ["ray"] ["ray"] (defScope s_half_of) := ⟨rfl, rfl, rfl, by decide +kernel, rfl, by decide +kernel, by decide +kernel⟩
noncomputable def m_half_of : M Fl := (mRet (mIf (mOrT (mBool (mOp dGtA (mIxN 0 (mC (.int 1))) (mC (.int 0)))) (mAndT (mBool (mOp dEq (mIxN 0 (mC (.int 1))) (mC (.int 0)))) (mBool (mOp dGtA (mIxN 0 (mC (.int 0))) (mC (.int 0)))))) (mC (.int 0)) (mC (.int 1))))
noncomputable def f_half_of : Fn := bodyF 1 m_half_of
theorem sc_comes_ahead : FnScope ["one", "other", "first", "last"] ["one", "other"] (defScope s_comes_ahead) := ⟨rfl, rfl, rfl, by decide +kernel, rfl, by decide +kernel, by decide +kernel⟩
noncomputable def st0_comes_ahead : M Fl := (mPar 2 3 (mCons (mCall f_half_of (mCons (mVar 0) mNil)) (mCons (mCall f_half_of (mCons (mVar 1) mNil)) mNil)))
noncomputable def st1_comes_ahead : M Fl := (mRet (mOrE (mOp dLtA (mVar 2) (mVar 3)) (mAndE (mOp dEq (mVar 2) (mVar 3)) (mOp dGtA (mCall f_raw_turn (mCons (mVar 0) (mCons (mVar 1) mNil))) (mC (.int 0))))))
noncomputable def m_comes_ahead : M Fl := (mSeq st0_comes_ahead st1_comes_ahead)
noncomputable def f_comes_ahead : Fn := bodyF 4 m_comes_ahead
theorem sc_by_angle : FnScope ["rays", "found", "ray", "one"] ["rays"] (defScope s_by_angle) := ⟨rfl, rfl, rfl, by decide +kernel, rfl, by decide +kernel, by decide +kernel⟩
noncomputable def st0_by_angle : M Fl := (mSet 1 (mLst mNil))
noncomputable def ct0_by_angle : M Bool := (mBool (mCall f_comes_ahead (mCons (mVar 3) (mCons (mVar 2) mNil))))
noncomputable def ce0_by_angle : M R := (mVar 3)
noncomputable def fb0_by_angle : M Fl := (mIfS (mBool (mOpP dNotInA (mVar 2) 1)) (mDrop (mM2 1 fIns (mRd dLen (mVal (mLcO [3] 1 (gSet 3) ct0_by_angle ce0_by_angle))) (mVar 2))) mNx)
noncomputable def st1_by_angle : M Fl := (mFor (mIt (mVar 0)) (gSet 2) fb0_by_angle)
noncomputable def st2_by_angle : M Fl := (mRet (mVarO 1))
noncomputable def m_by_angle : M Fl := (mSeq st0_by_angle (mSeq st1_by_angle st2_by_angle))
noncomputable def f_by_angle : Fn := bodyF 4 m_by_angle
theorem sc_rays_within : FnScope ["one", "other", "most", "some", "x", "y", "ray"] ["one", "other", "most"] (defScope s_rays_within) := ⟨rfl, rfl, rfl, by decide +kernel, rfl, by decide +kernel, by decide +kernel⟩
noncomputable def st0_rays_within : M Fl := (mDrop (mCall f_check_corner (mCons (mVar 0) (mCons (mVar 1) mNil))))
noncomputable def st1_rays_within : M Fl := (mIfS (mNotT (mBool (mCall f_is_within (mCons (mVar 2) (mCons (mC (.int 1)) (mCons (mC (.int 30)) mNil)))))) (mRaise "NoNumber") mNx)
noncomputable def st2_rays_within : M Fl := (mSet 3 (mLst mNil))
noncomputable def ct0_rays_within : M Bool := (mBool (mOp dEq (mCall f_common_divisor (mCons (mVar 4) (mCons (mVar 5) mNil))) (mC (.int 1))))
noncomputable def ce0_rays_within : M R := (mTup (mCons (mVar 4) (mCons (mVar 5) mNil)))
noncomputable def fb0_rays_within : M Fl := (mDrop (mM1 3 fExt (mLc [5] (mRange2 (mNeg (mVar 2)) (mOp dAdd (mVar 2) (mC (.int 1)))) (gSet 5) ct0_rays_within ce0_rays_within)))
noncomputable def st3_rays_within : M Fl := (mFor (mRange2 (mNeg (mVar 2)) (mOp dAdd (mVar 2) (mC (.int 1)))) (gSet 4) fb0_rays_within)
noncomputable def ct1_rays_within : M Bool := (mAndT (mBool (mOp dGtA (mCall f_raw_turn (mCons (mVar 0) (mCons (mVar 6) mNil))) (mC (.int 0)))) (mBool (mOp dGtA (mCall f_raw_turn (mCons (mVar 6) (mCons (mVar 1) mNil))) (mC (.int 0)))))
noncomputable def ce1_rays_within : M R := (mVar 6)
noncomputable def st4_rays_within : M Fl := (mRet (mRd dTup (mVal (mCall f_by_angle (mCons (mLcO [6] 3 (gSet 6) ct1_rays_within ce1_rays_within) mNil)))))
noncomputable def m_rays_within : M Fl := (mSeq st0_rays_within (mSeq st1_rays_within (mSeq st2_rays_within (mSeq st3_rays_within st4_rays_within))))
noncomputable def f_rays_within : Fn := bodyF 7 m_rays_within
theorem sc_sized_rays : FnScope ["size", "found", "x", "rest", "y"] ["size"] (defScope s_sized_rays) := ⟨rfl, rfl, rfl, by decide +kernel, rfl, by decide +kernel, by decide +kernel⟩
noncomputable def st0_sized_rays : M Fl := (mSet 1 (mLst mNil))
noncomputable def ct0_sized_rays : M Bool := (mBool (mOp dEq (mCall f_common_divisor (mCons (mVar 2) (mCons (mVar 4) mNil))) (mC (.int 1))))
noncomputable def ce0_sized_rays : M R := (mTup (mCons (mVar 2) (mCons (mVar 4) mNil)))
noncomputable def fb0_sized_rays : M Fl := (mSeq (mSet 3 (mOp dSub (mVar 0) (mRd dAbs (mPeek 2)))) (mDrop (mM1 1 fExt (mLc [4] (mIt (mIf (mBool (mOp dGtA (mVar 3) (mC (.int 0)))) (mLst (mCons (mNeg (mVar 3)) (mCons (mVar 3) mNil))) (mLst (mCons (mC (.int 0)) mNil)))) (gSet 4) ct0_sized_rays ce0_sized_rays))))
noncomputable def st1_sized_rays : M Fl := (mFor (mRange2 (mNeg (mVar 0)) (mOp dAdd (mVar 0) (mC (.int 1)))) (gSet 2) fb0_sized_rays)
noncomputable def st2_sized_rays : M Fl := (mRet (mVarO 1))
noncomputable def m_sized_rays : M Fl := (mSeq st0_sized_rays (mSeq st1_sized_rays st2_sized_rays))
noncomputable def f_sized_rays : Fn := bodyF 5 m_sized_rays
theorem sc_simplest : FnScope ["one", "other", "size", "some", "ray"] ["one", "other"] (defScope s_simplest) := ⟨rfl, rfl, rfl, by decide +kernel, rfl, by decide +kernel, by decide +kernel⟩
noncomputable def st0_simplest : M Fl := (mDrop (mCall f_check_corner (mCons (mVar 0) (mCons (mVar 1) mNil))))
noncomputable def st1_simplest : M Fl := (mPar 2 3 (mCons (mC (.int 0)) (mCons (mLst mNil) mNil)))
noncomputable def ct0_simplest : M Bool := (mAndT (mBool (mOp dGtA (mCall f_raw_turn (mCons (mVar 0) (mCons (mVar 4) mNil))) (mC (.int 0)))) (mBool (mOp dGtA (mCall f_raw_turn (mCons (mVar 4) (mCons (mVar 1) mNil))) (mC (.int 0)))))
noncomputable def ce0_simplest : M R := (mVar 4)
noncomputable def wt0_simplest : M Bool := (mBool (mOp dEq (mRd dLen (mPeek 3)) (mC (.int 0))))
noncomputable def wb0_simplest : M Fl := (mSeq (mAug 2 (mC (.int 1))) (mSet 3 (mLc [4] (mIt (mCall f_sized_rays (mCons (mVar 2) mNil))) (gSet 4) ct0_simplest ce0_simplest)))
noncomputable def st2_simplest : M Fl := (whileN wt0_simplest wb0_simplest 200)
noncomputable def st3_simplest : M Fl := (mRet (mIxN 3 (mC (.int 0))))
noncomputable def m_simplest : M Fl := (mSeq st0_simplest (mSeq st1_simplest (mSeq st2_simplest st3_simplest)))
noncomputable def f_simplest : Fn := bodyF 5 m_simplest
theorem sc_are_dots : FnScope ["thing", "one"] ["thing"] (defScope s_are_dots) := ⟨rfl, rfl, rfl, by decide +kernel, rfl, by decide +kernel, by decide +kernel⟩
noncomputable def ce0_are_dots : M R := (mCall f_is_dot (mCons (mVar 1) mNil))
noncomputable def m_are_dots : M Fl := (mRet (mAndE (mRd (dIsi "tuple") (mPeek 0)) (mAndE (mChain dLeA dLeA (mC (.int 1)) (mRd dLen (mPeek 0)) (mC (.int 40))) (mRd dAll (mVal (mLc [1] (mIt (mVar 0)) (gSet 1) (pure true) ce0_are_dots))))))
noncomputable def f_are_dots : Fn := bodyF 2 m_are_dots
theorem sc_is_on_way : FnScope ["one", "dot"] ["one", "dot"] (defScope s_is_on_way) := ⟨rfl, rfl, rfl, by decide +kernel, rfl, by decide +kernel, by decide +kernel⟩
noncomputable def st0_is_on_way : M Fl := (mIfS (mBool (mOp dNe (mCall f_raw_turn (mCons (mVar 0) (mCons (mVar 1) mNil))) (mC (.int 0)))) (mRet (mC (.bl false))) mNx)
noncomputable def st1_is_on_way : M Fl := (mRet (mAndE (mOp dNe (mVar 0) (mVar 1)) (mChain dLeA dLeA (mC (.int 0)) (mOp dAdd (mOp dMul (mIxN 0 (mC (.int 0))) (mIxN 1 (mC (.int 0)))) (mOp dMul (mIxN 0 (mC (.int 1))) (mIxN 1 (mC (.int 1))))) (mOp dAdd (mOp dMul (mIxN 1 (mC (.int 0))) (mIxN 1 (mC (.int 0)))) (mOp dMul (mIxN 1 (mC (.int 1))) (mIxN 1 (mC (.int 1))))))))
noncomputable def m_is_on_way : M Fl := (mSeq st0_is_on_way st1_is_on_way)
noncomputable def f_is_on_way : Fn := bodyF 2 m_is_on_way
theorem sc_is_seen : FnScope ["dots", "dot", "one"] ["dots", "dot"] (defScope s_is_seen) := ⟨rfl, rfl, rfl, by decide +kernel, rfl, by decide +kernel, by decide +kernel⟩
noncomputable def st0_is_seen : M Fl := (mIfS (mNotT (mBool (mCall f_are_dots (mCons (mVar 0) mNil)))) (mRaise "NoDots") mNx)
noncomputable def st1_is_seen : M Fl := (mIfS (mNotT (mBool (mCall f_is_dot (mCons (mVar 1) mNil)))) (mRaise "NoDot") mNx)
noncomputable def ct0_is_seen : M Bool := (mBool (mOp dNe (mVar 2) (mVar 1)))
noncomputable def ce0_is_seen : M R := (mCall f_is_on_way (mCons (mVar 2) (mCons (mVar 1) mNil)))
noncomputable def st2_is_seen : M Fl := (mRet (mNotE (mRd dAny (mVal (mLc [2] (mIt (mVar 0)) (gSet 2) ct0_is_seen ce0_is_seen)))))
noncomputable def m_is_seen : M Fl := (mSeq st0_is_seen (mSeq st1_is_seen st2_is_seen))
noncomputable def f_is_seen : Fn := bodyF 3 m_is_seen
theorem sc__law_divisor : FnScope ["one", "other"] ["one", "other"] (defScope s__law_divisor) := ⟨rfl, rfl, rfl, by decide +kernel, rfl, by decide +kernel, by decide +kernel⟩
noncomputable def st0__law_divisor : M Fl := (mPar 0 1 (mCons (mRd dAbs (mPeek 0)) (mCons (mRd dAbs (mPeek 1)) mNil)))
noncomputable def wt0__law_divisor : M Bool := (mBool (mOp dGtA (mVar 1) (mC (.int 0))))
noncomputable def wb0__law_divisor : M Fl := (mPar 0 1 (mCons (mVar 1) (mCons (mOp dMod (mRd dInt (mPeek 0)) (mVar 1)) mNil)))
noncomputable def st1__law_divisor : M Fl := (whileN wt0__law_divisor wb0__law_divisor 200)
noncomputable def st2__law_divisor : M Fl := (mRet (mVarO 0))
noncomputable def m__law_divisor : M Fl := (mSeq st0__law_divisor (mSeq st1__law_divisor st2__law_divisor))
noncomputable def f__law_divisor : Fn := bodyF 2 m__law_divisor
theorem sc__law_draw : FnScope ["hand", "below", "cell", "digit", "number"] ["hand", "below"] (defScope s__law_draw) := ⟨rfl, rfl, rfl, by decide +kernel, rfl, by decide +kernel, by decide +kernel⟩
noncomputable def st0__law_draw : M Fl := (mIfS (mAndT (mBool (mOp dEq (mIxN 0 (mC (.int 2))) (mC (.int 0)))) (mBool (mOp dLtA (mIxN 0 (mC (.int 1))) (mRd dLen (mVal (mIxN 0 (mC (.int 0)))))))) (mSeq (mSet 2 (mIx (mIxN 0 (mC (.int 0))) (mIxN 0 (mC (.int 1))))) (mSeq (mSetIx 0 (mC (.int 1)) (mOp dAdd (mIxN 0 (mC (.int 1))) (mC (.int 1)))) (mSeq (mSetIx 0 (mC (.int 3)) (mOp dMod (mRd dInt (mVal (mOp dAdd (mOp dAdd (mOp dMul (mIxN 0 (mC (.int 3))) (mC (.int 69621))) (mOp dMul (mVar 2) (mC (.int 40692)))) (mC (.int 31))))) (mC (.int 2147483629)))) (mIfS (mBool (mOp dGeA (mVar 2) (mOp dPow (mC (.int 10)) (mC (.int 18))))) (mSetIx 0 (mC (.int 2)) (mVar 2)) mNx)))) mNx)
noncomputable def st1__law_draw : M Fl := (mIfS (mBool (mOp dGtA (mIxN 0 (mC (.int 2))) (mC (.int 0)))) (mSeq (mSet 3 (mOp dMod (mRd dInt (mVal (mIxN 0 (mC (.int 2))))) (mVar 1))) (mSeq (mSetIx 0 (mC (.int 2)) (mOp dDiv (mIxN 0 (mC (.int 2))) (mVar 1))) (mRet (mVarO 3)))) mNx)
noncomputable def st2__law_draw : M Fl := (mSetIx 0 (mC (.int 4)) (mOp dAdd (mIxN 0 (mC (.int 4))) (mC (.int 1))))
noncomputable def st3__law_draw : M Fl := (mSet 4 (mOp dMod (mRd dInt (mVal (mOp dMul (mRd dInt (mVal (mOp dAdd (mIxN 0 (mC (.int 3))) (mOp dMul (mC (.int 7919)) (mIxN 0 (mC (.int 4))))))) (mC (.int 48271))))) (mC (.int 2147483647))))
noncomputable def st4__law_draw : M Fl := (mSet 4 (mOp dMod (mRd dInt (mVal (mOp dMul (mVar 4) (mOp dAdd (mOp dDiv (mVar 4) (mC (.int 1009))) (mC (.int 69621)))))) (mC (.int 2147483647))))
noncomputable def st5__law_draw : M Fl := (mSet 4 (mOp dMod (mRd dInt (mVal (mOp dMul (mVar 4) (mOp dAdd (mOp dDiv (mVar 4) (mC (.int 2003))) (mC (.int 40014)))))) (mC (.int 2147483563))))
noncomputable def st6__law_draw : M Fl := (mRet (mOp dMod (mRd dInt (mVal (mOp dDiv (mVar 4) (mC (.int 16))))) (mVar 1)))
noncomputable def m__law_draw : M Fl := (mSeq st0__law_draw (mSeq st1__law_draw (mSeq st2__law_draw (mSeq st3__law_draw (mSeq st4__law_draw (mSeq st5__law_draw st6__law_draw))))))
noncomputable def f__law_draw : Fn := bodyF 5 m__law_draw
theorem sc__law_ray : FnScope ["hand", "size", "lap", "ray"] ["hand", "size"] (defScope s__law_ray) := ⟨rfl, rfl, rfl, by decide +kernel, rfl, by decide +kernel, by decide +kernel⟩
noncomputable def fb0__law_ray : M Fl := (mSeq (mSet 3 (mTup (mCons (mOp dSub (mCallIO 0 f__law_draw (mCons (mOp dAdd (mOp dMul (mC (.int 2)) (mVar 1)) (mC (.int 1))) mNil)) (mVar 1)) (mCons (mOp dSub (mCallIO 0 f__law_draw (mCons (mOp dAdd (mOp dMul (mC (.int 2)) (mVar 1)) (mC (.int 1))) mNil)) (mVar 1)) mNil)))) (mIfS (mBool (mOp dEq (mCall f__law_divisor (mCons (mIxN 3 (mC (.int 0))) (mCons (mIxN 3 (mC (.int 1))) mNil))) (mC (.int 1)))) (mRet (mVarO 3)) mNx))
noncomputable def st0__law_ray : M Fl := (mFor (mRange1 (mC (.int 8))) (gSet 2) fb0__law_ray)
noncomputable def st1__law_ray : M Fl := (mRet (mTup (mCons (mC (.int 1)) (mCons (mC (.int 0)) mNil))))
noncomputable def m__law_ray : M Fl := (mSeq st0__law_ray st1__law_ray)
noncomputable def f__law_ray : Fn := bodyF 4 m__law_ray
theorem sc__law_turn : FnScope ["one", "other"] ["one", "other"] (defScope s__law_turn) := ⟨rfl, rfl, rfl, by decide +kernel, rfl, by decide +kernel, by decide +kernel⟩
noncomputable def m__law_turn : M Fl := (mRet (mOp dSub (mOp dMul (mIxN 0 (mC (.int 0))) (mIxN 1 (mC (.int 1)))) (mOp dMul (mIxN 0 (mC (.int 1))) (mIxN 1 (mC (.int 0))))))
noncomputable def f__law_turn : Fn := bodyF 2 m__law_turn
theorem sc__law_sorted_round : FnScope ["spokes", "found", "ray", "half", "ahead", "one", "side"] ["spokes"] (defScope s__law_sorted_round) := ⟨rfl, rfl, rfl, by decide +kernel, rfl, by decide +kernel, by decide +kernel⟩
noncomputable def st0__law_sorted_round : M Fl := (mSet 1 (mLst mNil))
noncomputable def fb0__law_sorted_round : M Fl := (mSet 4 (mOp dAdd (mVar 4) (mRd dInt (mVal (mOrE (mOp dLtA (mVar 6) (mVar 3)) (mAndE (mOp dEq (mVar 6) (mVar 3)) (mOp dGtA (mCall f__law_turn (mCons (mVar 5) (mCons (mVar 2) mNil))) (mC (.int 0)))))))))
noncomputable def fb1__law_sorted_round : M Fl := (mSeq (mSet 3 (mIf (mOrT (mBool (mOp dLtA (mIxN 2 (mC (.int 1))) (mC (.int 0)))) (mAndT (mBool (mOp dEq (mIxN 2 (mC (.int 1))) (mC (.int 0)))) (mBool (mOp dLtA (mIxN 2 (mC (.int 0))) (mC (.int 0)))))) (mC (.int 1)) (mC (.int 0)))) (mSeq (mSet 4 (mC (.int 0))) (mSeq (mFor (mIt (mVar 1)) (gTupD [5, 6]) fb0__law_sorted_round) (mIfS (mBool (mOp dNotInA (mTup (mCons (mVar 2) (mCons (mVar 3) mNil))) (mVar 1))) (mSet 1 (mOp dAdd (mOp dAdd (mSlN 1 mONo (mOSome (mVar 4))) (mLst (mCons (mTup (mCons (mVar 2) (mCons (mVar 3) mNil))) mNil))) (mSlN 1 (mOSome (mVar 4)) mONo))) mNx))))
noncomputable def st1__law_sorted_round : M Fl := (mFor (mIt (mVar 0)) (gSet 2) fb1__law_sorted_round)
noncomputable def ce0__law_sorted_round : M R := (mVar 2)
noncomputable def st2__law_sorted_round : M Fl := (mRet (mLc [2, 3] (mIt (mVar 1)) (gTupD [2, 3]) (pure true) ce0__law_sorted_round))
noncomputable def m__law_sorted_round : M Fl := (mSeq st0__law_sorted_round (mSeq st1__law_sorted_round st2__law_sorted_round))
noncomputable def f__law_sorted_round : Fn := bodyF 7 m__law_sorted_round
theorem sc__law_between : FnScope ["one", "other", "most", "found", "x", "y"] ["one", "other", "most"] (defScope s__law_between) := ⟨rfl, rfl, rfl, by decide +kernel, rfl, by decide +kernel, by decide +kernel⟩
noncomputable def st0__law_between : M Fl := (mSet 3 (mLst mNil))
noncomputable def fb0__law_between : M Fl := (mIfS (mAndT (mBool (mOp dEq (mCall f__law_divisor (mCons (mVar 4) (mCons (mVar 5) mNil))) (mC (.int 1)))) (mAndT (mBool (mOp dGtA (mCall f__law_turn (mCons (mVar 0) (mCons (mTup (mCons (mVar 4) (mCons (mVar 5) mNil))) mNil))) (mC (.int 0)))) (mBool (mOp dGtA (mCall f__law_turn (mCons (mTup (mCons (mVar 4) (mCons (mVar 5) mNil))) (mCons (mVar 1) mNil))) (mC (.int 0)))))) (mDrop (mM1 3 fApp (mTup (mCons (mVar 4) (mCons (mVar 5) mNil))))) mNx)
noncomputable def fb1__law_between : M Fl := (mFor (mRange2 (mOp dSub (mC (.int 0)) (mVar 2)) (mOp dAdd (mVar 2) (mC (.int 1)))) (gSet 5) fb0__law_between)
noncomputable def st1__law_between : M Fl := (mFor (mRange2 (mOp dSub (mC (.int 0)) (mVar 2)) (mOp dAdd (mVar 2) (mC (.int 1)))) (gSet 4) fb1__law_between)
noncomputable def st2__law_between : M Fl := (mRet (mCall f__law_sorted_round (mCons (mVar 3) mNil)))
noncomputable def m__law_between : M Fl := (mSeq st0__law_between (mSeq st1__law_between st2__law_between))
noncomputable def f__law_between : Fn := bodyF 6 m__law_between
theorem sc__law_is_corner_right : FnScope ["hand", "one", "other", "most", "some", "x", "y"] ["hand", "one", "other"] (defScope s__law_is_corner_right) := ⟨rfl, rfl, rfl, by decide +kernel, rfl, by decide +kernel, by decide +kernel⟩
noncomputable def st0__law_is_corner_right : M Fl := (mSet 3 (mOp dAdd (mC (.int 1)) (mCallIO 0 f__law_draw (mCons (mC (.int 7)) mNil))))
noncomputable def st1__law_is_corner_right : M Fl := (mIfS (mBool (mOp dNe (mRd dReprS (mVal (mCall f_rays_within (mCons (mVar 1) (mCons (mVar 2) (mCons (mVar 3) mNil)))))) (mRd dReprS (mVal (mRd dTup (mVal (mCall f__law_between (mCons (mVar 1) (mCons (mVar 2) (mCons (mVar 3) mNil)))))))))) (mRet (mC (.bl false))) mNx)
noncomputable def st2__law_is_corner_right : M Fl := (mSet 4 (mCall f__law_between (mCons (mVar 1) (mCons (mVar 2) (mCons (mOp dAdd (mOp dAdd (mOp dAdd (mRd dAbs (mVal (mIxN 1 (mC (.int 0))))) (mRd dAbs (mVal (mIxN 2 (mC (.int 0)))))) (mRd dAbs (mVal (mIxN 1 (mC (.int 1)))))) (mRd dAbs (mVal (mIxN 2 (mC (.int 1)))))) mNil)))))
noncomputable def ce0__law_is_corner_right : M R := (mTup (mCons (mOp dAdd (mRd dAbs (mPeek 5)) (mRd dAbs (mPeek 6))) (mCons (mTup (mCons (mVar 5) (mCons (mVar 6) mNil))) mNil)))
noncomputable def st3__law_is_corner_right : M Fl := (mRet (mOp dEq (mRd dReprS (mVal (mCall f_simplest (mCons (mVar 1) (mCons (mVar 2) mNil))))) (mRd dReprS (mVal (mIx (mRd dMinA (mVal (mLc [5, 6] (mIt (mVar 4)) (gTupD [5, 6]) (pure true) ce0__law_is_corner_right))) (mC (.int 1)))))))
noncomputable def m__law_is_corner_right : M Fl := (mSeq st0__law_is_corner_right (mSeq st1__law_is_corner_right (mSeq st2__law_is_corner_right st3__law_is_corner_right)))
noncomputable def f__law_is_corner_right : Fn := bodyF 7 m__law_is_corner_right
theorem sc__law_any : FnScope ["hand", "some"] ["hand", "some"] (defScope s__law_any) := ⟨rfl, rfl, rfl, by decide +kernel, rfl, by decide +kernel, by decide +kernel⟩
noncomputable def m__law_any : M Fl := (mRet (mIxN 1 (mCallIO 0 f__law_draw (mCons (mRd dLen (mPeek 1)) mNil))))
noncomputable def f__law_any : Fn := bodyF 2 m__law_any
theorem sc__law_told : FnScope ["call", "told", "error", "flags", "names"] ["call"] (defScope s__law_told) := ⟨rfl, rfl, rfl, by decide +kernel, rfl, by decide +kernel, by decide +kernel⟩
noncomputable def su__law_told (c : Str) (y : D) : M Fl := (mSeq (mSet 3 (mLst (mCons (mIsX 2 y (isA c "NoCorner")) (mCons (mIsX 2 y (isA c "NoDot")) (mCons (mIsX 2 y (isA c "NoDots")) mNil))))) (mSeq (mSet 3 (mOp dAdd (mVar 3) (mLst (mCons (mIsX 2 y (isA c "NoNumber")) (mCons (mIsX 2 y (isA c "NoRay")) mNil))))) (mSeq (mSet 4 (mLst (mCons (mC (.str (PySem.Str.ofString "corner"))) (mCons (mC (.str (PySem.Str.ofString "dot"))) (mCons (mC (.str (PySem.Str.ofString "dots"))) (mCons (mC (.str (PySem.Str.ofString "number"))) (mCons (mC (.str (PySem.Str.ofString "ray"))) mNil))))))) (mSet 1 (mIf (mAndT (mBool (mOp dEq (mRm "list" dCnt (mVar 3) (mCons (mC (.bl true)) mNil)) (mC (.int 1)))) (mBool (mIsX 2 y (isAb c "ValueError")))) (mIxN 4 (mRm "list" dIdx (mVar 3) (mCons (mC (.bl true)) mNil))) (mC (.str (PySem.Str.ofString "other"))))))))
noncomputable def m__law_told (mo : M R) : M Fl := (mSeq (mSet 1 (mC (.str (PySem.Str.ofString "let")))) (mSeq (mTry 2 (cat "FanError") (mDrop mo) su__law_told) (mRet (mVarO 1))))
theorem sc__law_deep : FnScope ["hand", "thing", "lap"] ["hand"] (defScope s__law_deep) := ⟨rfl, rfl, rfl, by decide +kernel, rfl, by decide +kernel, by decide +kernel⟩
noncomputable def st0__law_deep : M Fl := (mSet 1 (mC .non))
noncomputable def fb0__law_deep : M Fl := (mSet 1 (mIf (mBool (mOp dEq (mCallIO 0 f__law_draw (mCons (mC (.int 2)) mNil)) (mC (.int 0)))) (mTup (mCons (mVar 1) mNil)) (mLst (mCons (mVar 1) mNil))))
noncomputable def st1__law_deep : M Fl := (mFor (mRange1 (mOp dAdd (mC (.int 1)) (mCallIO 0 f__law_draw (mCons (mC (.int 40)) mNil)))) (gSet 2) fb0__law_deep)
noncomputable def st2__law_deep : M Fl := (mRet (mVarO 1))
noncomputable def m__law_deep : M Fl := (mSeq st0__law_deep (mSeq st1__law_deep st2__law_deep))
noncomputable def f__law_deep : Fn := bodyF 3 m__law_deep
theorem sc__law_are_refused : FnScope ["hand", "one", "other", "none", "number", "dots", "dot", "told"] ["hand", "one", "other"] (defScope s__law_are_refused) := ⟨rfl, rfl, rfl, by decide +kernel, rfl, by decide +kernel, by decide +kernel⟩
noncomputable def st0__law_are_refused : M Fl := (mSet 3 (mCallIO 0 f__law_any (mCons (mLst (mCons (mC .non) (mCons (mTup (mCons (mC (.int 0)) (mCons (mC (.int 0)) mNil))) (mCons (mTup (mCons (mC (.int 2)) (mCons (mC (.int 2)) mNil))) (mCons (mLst (mCons (mC (.int 1)) (mCons (mC (.int 1)) mNil))) (mCons (mTup (mCons (mC (.int 1)) mNil)) (mCons (mTup (mCons (mC (.bl true)) (mCons (mC (.int 1)) mNil))) (mCons (mC (.int 0)) (mCons (mTup (mCons (mC (.int 20000)) (mCons (mC (.int 1)) mNil))) (mCons (mCallIO 0 f__law_deep mNil) mNil)))))))))) mNil)))
noncomputable def st1__law_are_refused : M Fl := (mSet 4 (mCallIO 0 f__law_any (mCons (mLst (mCons (mC (.int 0)) (mCons (mC (.int 31)) (mCons (mNeg (mC (.int 1))) (mCons (mC .non) (mCons (mC (.bl true)) (mCons (mC (.str (PySem.Str.ofString "1"))) (mCons (mCallIO 0 f__law_deep mNil) mNil)))))))) mNil)))
noncomputable def st2__law_are_refused : M Fl := (mSet 5 (mCallIO 0 f__law_any (mCons (mLst (mCons (mC .non) (mCons (mTup mNil) (mCons (mLst (mCons (mTup (mCons (mC (.int 0)) (mCons (mC (.int 0)) mNil))) mNil)) (mCons (mOp dMul (mTup (mCons (mTup (mCons (mC (.int 0)) (mCons (mC (.int 0)) mNil))) mNil)) (mC (.int 41))) (mCons (mTup (mCons (mC .non) mNil)) (mCons (mC (.int 0)) (mCons (mCallIO 0 f__law_deep mNil) mNil)))))))) mNil)))
noncomputable def st3__law_are_refused : M Fl := (mSet 6 (mCallIO 0 f__law_any (mCons (mLst (mCons (mC .non) (mCons (mTup (mCons (mC (.int 0)) mNil)) (mCons (mLst (mCons (mC (.int 0)) (mCons (mC (.int 0)) mNil))) (mCons (mTup (mCons (mC (.bl true)) (mCons (mC (.int 0)) mNil))) (mCons (mC (.int 0)) (mCons (mTup (mCons (mOp dPow (mC (.int 10)) (mC (.int 5))) (mCons (mC (.int 0)) mNil))) (mCons (mCallIO 0 f__law_deep mNil) mNil)))))))) mNil)))
noncomputable def la0__law_are_refused : M R := (mCall f_rays_within (mCons (mVar 3) (mCons (mVar 3) (mCons (mVar 4) mNil))))
noncomputable def st4__law_are_refused : M Fl := (mSet 7 (mLst (mCons (mLam [3, 4] 5 m__law_told la0__law_are_refused) mNil)))
noncomputable def la1__law_are_refused : M R := (mCall f_rays_within (mCons (mVar 1) (mCons (mVar 3) (mCons (mVar 4) mNil))))
noncomputable def st5__law_are_refused : M Fl := (mDrop (mM1 7 fApp (mLam [1, 3, 4] 5 m__law_told la1__law_are_refused)))
noncomputable def la2__law_are_refused : M R := (mCall f_rays_within (mCons (mVar 2) (mCons (mVar 1) (mCons (mVar 4) mNil))))
noncomputable def st6__law_are_refused : M Fl := (mSet 7 (mOp dAdd (mVar 7) (mLst (mCons (mLam [2, 1, 4] 5 m__law_told la2__law_are_refused) mNil))))
noncomputable def la3__law_are_refused : M R := (mCall f_rays_within (mCons (mVar 1) (mCons (mVar 2) (mCons (mVar 4) mNil))))
noncomputable def st7__law_are_refused : M Fl := (mDrop (mM1 7 fApp (mLam [1, 2, 4] 5 m__law_told la3__law_are_refused)))
noncomputable def la4__law_are_refused : M R := (mCall f_simplest (mCons (mVar 3) (mCons (mVar 3) mNil)))
noncomputable def st8__law_are_refused : M Fl := (mSet 7 (mOp dAdd (mVar 7) (mLst (mCons (mLam [3] 5 m__law_told la4__law_are_refused) mNil))))
noncomputable def la5__law_are_refused : M R := (mCall f_simplest (mCons (mVar 1) (mCons (mVar 3) mNil)))
noncomputable def st9__law_are_refused : M Fl := (mDrop (mM1 7 fApp (mLam [1, 3] 5 m__law_told la5__law_are_refused)))
noncomputable def la6__law_are_refused : M R := (mCall f_simplest (mCons (mVar 2) (mCons (mVar 1) mNil)))
noncomputable def st10__law_are_refused : M Fl := (mSet 7 (mOp dAdd (mVar 7) (mLst (mCons (mLam [2, 1] 5 m__law_told la6__law_are_refused) mNil))))
noncomputable def la7__law_are_refused : M R := (mCall f_simplest (mCons (mVar 1) (mCons (mVar 1) mNil)))
noncomputable def st11__law_are_refused : M Fl := (mDrop (mM1 7 fApp (mLam [1] 5 m__law_told la7__law_are_refused)))
noncomputable def la8__law_are_refused : M R := (mCall f_is_seen (mCons (mVar 5) (mCons (mVar 6) mNil)))
noncomputable def st12__law_are_refused : M Fl := (mSet 7 (mOp dAdd (mVar 7) (mLst (mCons (mLam [5, 6] 5 m__law_told la8__law_are_refused) mNil))))
noncomputable def la9__law_are_refused : M R := (mCall f_is_seen (mCons (mTup (mCons (mTup (mCons (mC (.int 1)) (mCons (mC (.int 0)) mNil))) mNil)) (mCons (mVar 6) mNil)))
noncomputable def st13__law_are_refused : M Fl := (mDrop (mM1 7 fApp (mLam [6] 5 m__law_told la9__law_are_refused)))
noncomputable def st14__law_are_refused : M Fl := (mRet (mOp dEq (mVar 7) (mLst (mCons (mC (.str (PySem.Str.ofString "ray"))) (mCons (mC (.str (PySem.Str.ofString "ray"))) (mCons (mC (.str (PySem.Str.ofString "corner"))) (mCons (mC (.str (PySem.Str.ofString "number"))) (mCons (mC (.str (PySem.Str.ofString "ray"))) (mCons (mC (.str (PySem.Str.ofString "ray"))) (mCons (mC (.str (PySem.Str.ofString "corner"))) (mCons (mC (.str (PySem.Str.ofString "corner"))) (mCons (mC (.str (PySem.Str.ofString "dots"))) (mCons (mC (.str (PySem.Str.ofString "dot"))) mNil)))))))))))))
noncomputable def m__law_are_refused : M Fl := (mSeq st0__law_are_refused (mSeq st1__law_are_refused (mSeq st2__law_are_refused (mSeq st3__law_are_refused (mSeq st4__law_are_refused (mSeq st5__law_are_refused (mSeq st6__law_are_refused (mSeq st7__law_are_refused (mSeq st8__law_are_refused (mSeq st9__law_are_refused (mSeq st10__law_are_refused (mSeq st11__law_are_refused (mSeq st12__law_are_refused (mSeq st13__law_are_refused st14__law_are_refused))))))))))))))
noncomputable def f__law_are_refused : Fn := bodyF 8 m__law_are_refused
theorem sc__law_is_own_seen : FnScope ["dots", "dot", "one"] ["dots", "dot"] (defScope s__law_is_own_seen) := ⟨rfl, rfl, rfl, by decide +kernel, rfl, by decide +kernel, by decide +kernel⟩
noncomputable def fb0__law_is_own_seen : M Fl := (mIfS (mAndT (mBool (mOp dNe (mVar 2) (mVar 1))) (mAndT (mBool (mOp dEq (mCall f__law_turn (mCons (mVar 2) (mCons (mVar 1) mNil))) (mC (.int 0)))) (mBool (mOp dGtA (mOp dAdd (mOp dMul (mIxN 2 (mC (.int 0))) (mIxN 1 (mC (.int 0)))) (mOp dMul (mIxN 2 (mC (.int 1))) (mIxN 1 (mC (.int 1))))) (mC (.int 0)))))) (mIfS (mBool (mOp dLtA (mOp dAdd (mOp dPow (mIxN 2 (mC (.int 0))) (mC (.int 2))) (mOp dPow (mIxN 2 (mC (.int 1))) (mC (.int 2)))) (mOp dAdd (mOp dPow (mIxN 1 (mC (.int 0))) (mC (.int 2))) (mOp dPow (mIxN 1 (mC (.int 1))) (mC (.int 2)))))) (mRet (mC (.bl false))) mNx) mNx)
noncomputable def st0__law_is_own_seen : M Fl := (mFor (mIt (mVar 0)) (gSet 2) fb0__law_is_own_seen)
noncomputable def st1__law_is_own_seen : M Fl := (mRet (mC (.bl true)))
noncomputable def m__law_is_own_seen : M Fl := (mSeq st0__law_is_own_seen st1__law_is_own_seen)
noncomputable def f__law_is_own_seen : Fn := bodyF 3 m__law_is_own_seen
theorem sc_law : FnScope ["script", "hand", "lap", "one", "other", "dots", "dot", "at"] ["script"] (defScope s_law) := ⟨rfl, rfl, rfl, by decide +kernel, rfl, by decide +kernel, by decide +kernel⟩
noncomputable def st0_law : M Fl := (mSet 1 (mCall f__law_hand (mCons (mVar 0) mNil)))
noncomputable def st1_law : M Fl := (mIfS (mOrT (mBool (mOp dNe (mCall f_rays_within (mCons (mTup (mCons (mC (.int 1)) (mCons (mC (.int 0)) mNil))) (mCons (mTup (mCons (mC (.int 0)) (mCons (mC (.int 1)) mNil))) (mCons (mC (.int 2)) mNil)))) (mTup (mCons (mTup (mCons (mC (.int 2)) (mCons (mC (.int 1)) mNil))) (mCons (mTup (mCons (mC (.int 1)) (mCons (mC (.int 1)) mNil))) (mCons (mTup (mCons (mC (.int 1)) (mCons (mC (.int 2)) mNil))) mNil)))))) (mBool (mOp dNe (mCall f_simplest (mCons (mTup (mCons (mC (.int 1)) (mCons (mC (.int 0)) mNil))) (mCons (mTup (mCons (mC (.int 1)) (mCons (mC (.int 2)) mNil))) mNil))) (mTup (mCons (mC (.int 1)) (mCons (mC (.int 1)) mNil)))))) (mRet (mC (.bl false))) mNx)
noncomputable def st2_law : M Fl := (mIfS (mOrT (mBool (mOp dIsNot (mCall f_is_seen (mCons (mTup (mCons (mTup (mCons (mC (.int 1)) (mCons (mC (.int 1)) mNil))) (mCons (mTup (mCons (mC (.int 2)) (mCons (mC (.int 2)) mNil))) mNil))) (mCons (mTup (mCons (mC (.int 2)) (mCons (mC (.int 2)) mNil))) mNil))) (mC (.bl false)))) (mBool (mOp dIsNot (mCall f_is_seen (mCons (mTup (mCons (mTup (mCons (mC (.int 1)) (mCons (mC (.int 1)) mNil))) (mCons (mTup (mCons (mC (.int 2)) (mCons (mC (.int 2)) mNil))) mNil))) (mCons (mTup (mCons (mC (.int 1)) (mCons (mC (.int 1)) mNil))) mNil))) (mC (.bl true))))) (mRet (mC (.bl false))) mNx)
noncomputable def fb0_law : M Fl := (mIfS (mBool (mOp dNe (mRd dReprS (mVal (mCall f_is_seen (mCons (mVar 5) (mCons (mVar 6) mNil))))) (mRd dReprS (mVal (mCall f__law_is_own_seen (mCons (mVar 5) (mCons (mVar 6) mNil))))))) (mRet (mC (.bl false))) mNx)
noncomputable def ct0_law : M Bool := (mBool (mOp dNe (mVar 6) (mTup (mCons (mC (.int 0)) (mCons (mC (.int 0)) mNil)))))
noncomputable def ce0_law : M R := (mVar 6)
noncomputable def ce1_law : M R := (mTup (mCons (mOp dSub (mCallIO 1 f__law_draw (mCons (mC (.int 9)) mNil)) (mC (.int 4))) (mCons (mOp dSub (mCallIO 1 f__law_draw (mCons (mC (.int 9)) mNil)) (mC (.int 4))) mNil)))
noncomputable def fb1_law : M Fl := (mSeq (mPar 3 4 (mCons (mCallIO 1 f__law_ray (mCons (mC (.int 4)) mNil)) (mCons (mCallIO 1 f__law_ray (mCons (mC (.int 4)) mNil)) mNil))) (mSeq (mUnpack (gTupD [3, 4]) (mIf (mBool (mOp dGtA (mCall f__law_turn (mCons (mVar 3) (mCons (mVar 4) mNil))) (mC (.int 0)))) (mTup (mCons (mVar 3) (mCons (mVar 4) mNil))) (mTup (mCons (mVar 4) (mCons (mVar 3) mNil))))) (mSeq (mIfS (mAndT (mBool (mOp dGtA (mCall f__law_turn (mCons (mVar 3) (mCons (mVar 4) mNil))) (mC (.int 0)))) (mNotT (mBool (mCallIO 1 f__law_is_corner_right (mCons (mVar 3) (mCons (mVar 4) mNil)))))) (mRet (mC (.bl false))) mNx) (mSeq (mIfS (mAndT (mBool (mOp dGtA (mCall f__law_turn (mCons (mVar 3) (mCons (mVar 4) mNil))) (mC (.int 0)))) (mNotT (mBool (mCallIO 1 f__law_are_refused (mCons (mVar 3) (mCons (mVar 4) mNil)))))) (mRet (mC (.bl false))) mNx) (mSeq (mSet 5 (mRd dTup (mVal (mLc [7] (mRange1 (mOp dAdd (mC (.int 1)) (mCallIO 1 f__law_draw (mCons (mC (.int 9)) mNil)))) (gSet 7) (pure true) ce1_law)))) (mSeq (mSet 5 (mOp dAdd (mRd dTup (mVal (mLc [6] (mIt (mVar 5)) (gSet 6) ct0_law ce0_law))) (mTup (mCons (mTup (mCons (mC (.int 1)) (mCons (mC (.int 0)) mNil))) mNil)))) (mFor (mIt (mVar 5)) (gSet 6) fb0_law)))))))
noncomputable def st3_law : M Fl := (mFor (mRange1 (mC (.int 5))) (gSet 2) fb1_law)
noncomputable def st4_law : M Fl := (mRet (mC (.bl true)))
noncomputable def m_law : M Fl := (mSeq st0_law (mSeq st1_law (mSeq st2_law (mSeq st3_law st4_law))))
noncomputable def f_law : Fn := bodyF 8 m_law
/-- what the top has written -/
structure Tb (K : PySem.W.Frag) (mg : Str → Option Value) : Prop where
  u__law_hand : ∃ f fd, Fun K "_law_hand" "_law_hand" s__law_hand f fd ∧ mg "_law_hand" = some (.ref f)
  u_is_integer : ∃ f fd, Fun K "is_integer" "is_integer" s_is_integer f fd ∧ mg "is_integer" = some (.ref f)
  u_is_within : ∃ f fd, Fun K "is_within" "is_within" s_is_within f fd ∧ mg "is_within" = some (.ref f)
  u_is_dot : ∃ f fd, Fun K "is_dot" "is_dot" s_is_dot f fd ∧ mg "is_dot" = some (.ref f)
  u_common_divisor : ∃ f fd, Fun K "common_divisor" "common_divisor" s_common_divisor f fd ∧ mg "common_divisor" = some (.ref f)
  u_is_ray : ∃ f fd, Fun K "is_ray" "is_ray" s_is_ray f fd ∧ mg "is_ray" = some (.ref f)
  u_check_ray : ∃ f fd, Fun K "check_ray" "check_ray" s_check_ray f fd ∧ mg "check_ray" = some (.ref f)
  u_raw_turn : ∃ f fd, Fun K "raw_turn" "raw_turn" s_raw_turn f fd ∧ mg "raw_turn" = some (.ref f)
  u_check_corner : ∃ f fd, Fun K "check_corner" "check_corner" s_check_corner f fd ∧ mg "check_corner" = some (.ref f)
  u_half_of : ∃ f fd, Fun K "half_of" "half_of" s_half_of f fd ∧ mg "half_of" = some (.ref f)
  u_comes_ahead : ∃ f fd, Fun K "comes_ahead" "comes_ahead" s_comes_ahead f fd ∧ mg "comes_ahead" = some (.ref f)
  u_by_angle : ∃ f fd, Fun K "by_angle" "by_angle" s_by_angle f fd ∧ mg "by_angle" = some (.ref f)
  u_rays_within : ∃ f fd, Fun K "rays_within" "rays_within" s_rays_within f fd ∧ mg "rays_within" = some (.ref f)
  u_sized_rays : ∃ f fd, Fun K "sized_rays" "sized_rays" s_sized_rays f fd ∧ mg "sized_rays" = some (.ref f)
  u_simplest : ∃ f fd, Fun K "simplest" "simplest" s_simplest f fd ∧ mg "simplest" = some (.ref f)
  u_are_dots : ∃ f fd, Fun K "are_dots" "are_dots" s_are_dots f fd ∧ mg "are_dots" = some (.ref f)
  u_is_on_way : ∃ f fd, Fun K "is_on_way" "is_on_way" s_is_on_way f fd ∧ mg "is_on_way" = some (.ref f)
  u_is_seen : ∃ f fd, Fun K "is_seen" "is_seen" s_is_seen f fd ∧ mg "is_seen" = some (.ref f)
  u__law_divisor : ∃ f fd, Fun K "_law_divisor" "_law_divisor" s__law_divisor f fd ∧ mg "_law_divisor" = some (.ref f)
  u__law_draw : ∃ f fd, Fun K "_law_draw" "_law_draw" s__law_draw f fd ∧ mg "_law_draw" = some (.ref f)
  u__law_ray : ∃ f fd, Fun K "_law_ray" "_law_ray" s__law_ray f fd ∧ mg "_law_ray" = some (.ref f)
  u__law_turn : ∃ f fd, Fun K "_law_turn" "_law_turn" s__law_turn f fd ∧ mg "_law_turn" = some (.ref f)
  u__law_sorted_round : ∃ f fd, Fun K "_law_sorted_round" "_law_sorted_round" s__law_sorted_round f fd ∧ mg "_law_sorted_round" = some (.ref f)
  u__law_between : ∃ f fd, Fun K "_law_between" "_law_between" s__law_between f fd ∧ mg "_law_between" = some (.ref f)
  u__law_is_corner_right : ∃ f fd, Fun K "_law_is_corner_right" "_law_is_corner_right" s__law_is_corner_right f fd ∧ mg "_law_is_corner_right" = some (.ref f)
  u__law_any : ∃ f fd, Fun K "_law_any" "_law_any" s__law_any f fd ∧ mg "_law_any" = some (.ref f)
  u__law_told : ∃ f fd, Fun K "_law_told" "_law_told" s__law_told f fd ∧ mg "_law_told" = some (.ref f)
  u__law_deep : ∃ f fd, Fun K "_law_deep" "_law_deep" s__law_deep f fd ∧ mg "_law_deep" = some (.ref f)
  u__law_are_refused : ∃ f fd, Fun K "_law_are_refused" "_law_are_refused" s__law_are_refused f fd ∧ mg "_law_are_refused" = some (.ref f)
  u__law_is_own_seen : ∃ f fd, Fun K "_law_is_own_seen" "_law_is_own_seen" s__law_is_own_seen f fd ∧ mg "_law_is_own_seen" = some (.ref f)
  u_law : ∃ f fd, Fun K "law" "law" s_law f fd ∧ mg "law" = some (.ref f)
  q__law_are_refused : ∀ f, mg "_law_are_refused" = some (.ref f) → PySem.W.nsIn K mainGlobals "_law_are_refused" = some (some (.ref f))
  n_ValueError : mg "ValueError" = none
  n_abs : mg "abs" = none
  n_all : mg "all" = none
  n_any : mg "any" = none
  n_bool : mg "bool" = none
  n_int : mg "int" = none
  n_isinstance : mg "isinstance" = none
  n_len : mg "len" = none
  n_min : mg "min" = none
  n_range : mg "range" = none
  n_repr : mg "repr" = none
  n_tuple : mg "tuple" = none
  c_MOST_DOTS : ∃ t : Tok, mg "MOST_DOTS" = some (.int 40 t)
  c_MOST_PLACE : ∃ t : Tok, mg "MOST_PLACE" = some (.int 10000 t)
  c_MOST_WITHIN : ∃ t : Tok, mg "MOST_WITHIN" = some (.int 30 t)
  m_FanError : ∃ C : Addr, mg "FanError" = some (.ref C)
  m_NoCorner : ∃ C : Addr, mg "NoCorner" = some (.ref C)
  m_NoDot : ∃ C : Addr, mg "NoDot" = some (.ref C)
  m_NoDots : ∃ C : Addr, mg "NoDots" = some (.ref C)
  m_NoNumber : ∃ C : Addr, mg "NoNumber" = some (.ref C)
  m_NoRay : ∃ C : Addr, mg "NoRay" = some (.ref C)
  x_NoCorner : XPl K mg "NoCorner"
  x_NoDot : XPl K mg "NoDot"
  x_NoDots : XPl K mg "NoDots"
  x_NoNumber : XPl K mg "NoNumber"
  x_NoRay : XPl K mg "NoRay"
  isa : ∀ c T b C CT, isA c T = some b → mg c = some (.ref C) → mg T = some (.ref CT) → ExcC K C ∧ PySem.W.kitOne K (.ref C) (.ref CT) = some b
  catq : ∀ T c b C CT, cat T c = some b → mg c = some (.ref C) → mg T = some (.ref CT) → PySem.W.exmOne K (.ref C) (.ref CT) = some b
  isb_ValueError : ∀ c b C, isb_ValueError.lookup c = some b → mg c = some (.ref C) → ExcC K C ∧ PySem.W.kitOne K (.ref C) (.type "ValueError") = some b
section
variable {P : Program} {w : World} {K : PySem.W.Frag} {mg : Str → Option Value} {base : Heap}
structure Lm (K : PySem.W.Frag) (mg : Str → Option Value) (base : Heap) : Prop where
  la__law_are_refused : LamAt K mg base "_law_are_refused"
theorem ok__law_hand (T : Tb K mg) : Cal P w K mg base "_law_hand" 1 1 f__law_hand := by
  obtain ⟨f, fd, F, hm⟩ := T.u__law_hand
  exact cal_mk F hm sc__law_hand (fun _ _ _ _ _ _ us hl => match us, hl with | [_], _ => rfl) fun cdv A outer s H E xr hp tk =>
    show TrSs _ _ _ m__law_hand from (trs_cons (trs_setLc (i := 1) (own := [("cell", 2)]) (js := [2]) (show BlkOk ["script", "cells", "cell"] (defScope s__law_hand) _ [("cell", 2)] from ⟨rfl, by decide +kernel, by decide +kernel, by decide +kernel, by decide +kernel⟩) xr.calm xr.nd (tri_it (tr_slN (i := 0) tr_ono (tr_osome tr_int))) (fun _ _ _ _ _ => (trb_name (i := 2) xr.blk.nd)) (fun _ _ _ _ _ => trp_nil) (fun _ _ _ _ _ => (tr_bi fv_abs (tr_val (tr_ty fv_int (tr_peek (i := 2)) (by rfl) T.n_int boot_int)) (by rfl) T.n_abs boot_abs))) (trs_one (trs_ret (tr_lst (tr_cons (tr_var (i := 1)) (tr_cons tr_int (tr_cons tr_int (tr_cons (tr_bin ok_add tr_int (tr_bin ok_mul tr_int (tr_bi fv_len (tr_peek (i := 1)) (by rfl) T.n_len boot_len))) (tr_cons tr_int tr_nil)))))))))
theorem ok_is_integer (T : Tb K mg) : Cal P w K mg base "is_integer" 1 1 f_is_integer := by
  obtain ⟨f, fd, F, hm⟩ := T.u_is_integer
  exact cal_mk F hm sc_is_integer (fun _ _ _ _ _ _ us hl => match us, hl with | [_], _ => rfl) fun cdv A outer s H E xr hp tk =>
    show TrSs _ _ _ m_is_integer from (trs_one (trs_ret (tr_and (tr_isi (by simp) (tr_peek (i := 0)) (by rfl) T.n_isinstance (by rfl) T.n_int boot_int) (tr_one (tr_not (tr_isi (by simp) (tr_peek (i := 0)) (by rfl) T.n_isinstance (by rfl) T.n_bool boot_bool))))))
theorem ok_is_within (T : Tb K mg) : Cal P w K mg base "is_within" 3 2 f_is_within := by
  obtain ⟨f, fd, F, hm⟩ := T.u_is_within
  exact cal_mk F hm sc_is_within (fun _ _ _ _ _ _ us hl => match us, hl with | [_, _, _], _ => rfl) fun cdv A outer s H E xr hp tk =>
    show TrSs _ _ _ m_is_within from (trs_one (trs_ret (tr_and (tr_fn (ok_is_integer T) xr (passAt tk) (tr_cons (tr_var (i := 0)) tr_nil) (len_cons len_nil)) (tr_one (tr_chain (ok_leA xr) (ok_leA xr) (tr_var (i := 1)) (tr_var (i := 0)) (tr_var (i := 2)))))))
theorem ok_is_dot (T : Tb K mg) : Cal P w K mg base "is_dot" 1 3 f_is_dot := by
  obtain ⟨f, fd, F, hm⟩ := T.u_is_dot
  exact cal_mk F hm sc_is_dot (fun _ _ _ _ _ _ us hl => match us, hl with | [_], _ => rfl) fun cdv A outer s H E xr hp tk =>
    show TrSs _ _ _ m_is_dot from (trs_cons (trs_if (TrW.pt (trW_or (trT_not (trT_val (tr_isi (by simp) (tr_peek (i := 0)) (by rfl) T.n_isinstance (by rfl) T.n_tuple boot_tuple))) (trW_or1 (trT_cmp (ok_ne xr) (tr_bi fv_len (tr_peek (i := 0)) (by rfl) T.n_len boot_len) tr_int)))) (trs_one (trs_ret tr_bl)) trs_nil) (trs_one (trs_ret (tr_bi (fv_all xr.calm) (tr_val (tr_lc (own := [("one", 1)]) (js := [1]) (show BlkOk ["thing", "one"] (defScope s_is_dot) _ [("one", 1)] from ⟨rfl, by decide +kernel, by decide +kernel, by decide +kernel, by decide +kernel⟩) xr.calm xr.nd (tri_it (tr_var (i := 0))) (fun _ _ _ _ _ => (trb_name (i := 1) xr.blk.nd)) (fun _ _ _ _ _ => trp_nil) (fun _ _ _ _ _ => (tr_fn (ok_is_within T) xr.blk passF (tr_cons (tr_var (i := 1)) (tr_cons (tr_neg (tr_const T.c_MOST_PLACE)) (tr_cons (tr_const T.c_MOST_PLACE) tr_nil))) (len_cons (len_cons (len_cons len_nil))))))) (by rfl) T.n_all boot_all))))
theorem ok_common_divisor (T : Tb K mg) : Cal P w K mg base "common_divisor" 2 1 f_common_divisor := by
  obtain ⟨f, fd, F, hm⟩ := T.u_common_divisor
  exact cal_mk F hm sc_common_divisor (fun _ _ _ _ _ _ us hl => match us, hl with | [_, _], _ => rfl) fun cdv A outer s H E xr hp tk =>
    show TrSs _ _ _ m_common_divisor from (trs_cons (trs_par (i := 0) (j := 1) (tr_cons (tr_bi fv_abs (tr_peek (i := 0)) (by rfl) T.n_abs boot_abs) (tr_cons (tr_bi fv_abs (tr_peek (i := 1)) (by rfl) T.n_abs boot_abs) tr_nil)) xr.calm xr.nd) (trs_cons (trs_while 200 (trT_cmp (ok_gtA xr) (tr_var (i := 1)) tr_int) (trs_one (trs_par (i := 0) (j := 1) (tr_cons (tr_var (i := 1)) (tr_cons (tr_bin ok_mod (tr_var (i := 0)) (tr_var (i := 1))) tr_nil)) xr.calm xr.nd)) hp) (trs_one (trs_ret (tr_varO (i := 0))))))
theorem ok_is_ray (T : Tb K mg) : Cal P w K mg base "is_ray" 1 4 f_is_ray := by
  obtain ⟨f, fd, F, hm⟩ := T.u_is_ray
  exact cal_mk F hm sc_is_ray (fun _ _ _ _ _ _ us hl => match us, hl with | [_], _ => rfl) fun cdv A outer s H E xr hp tk =>
    show TrSs _ _ _ m_is_ray from (trs_one (trs_ret (tr_and (tr_fn (ok_is_dot T) xr (passAt tk) (tr_cons (tr_var (i := 0)) tr_nil) (len_cons len_nil)) (tr_one (tr_cmp (ok_eq xr) (tr_fn (ok_common_divisor T) xr (passAt tk) (tr_cons (tr_ixN (i := 0) tr_int) (tr_cons (tr_ixN (i := 0) tr_int) tr_nil)) (len_cons (len_cons len_nil))) tr_int)))))
theorem ok_check_ray (T : Tb K mg) : Cal P w K mg base "check_ray" 1 5 f_check_ray := by
  obtain ⟨f, fd, F, hm⟩ := T.u_check_ray
  exact cal_mk F hm sc_check_ray (fun _ _ _ _ _ _ us hl => match us, hl with | [_], _ => rfl) fun cdv A outer s H E xr hp tk =>
    show TrSs _ _ _ m_check_ray from (trs_one (trs_if (trT_not (trT_val (tr_fn (ok_is_ray T) xr (passAt tk) (tr_cons (tr_var (i := 0)) tr_nil) (len_cons len_nil)))) (trs_one (trs_raise T.x_NoRay xr.calm tk)) trs_nil))
theorem ok_raw_turn (T : Tb K mg) : Cal P w K mg base "raw_turn" 2 1 f_raw_turn := by
  obtain ⟨f, fd, F, hm⟩ := T.u_raw_turn
  exact cal_mk F hm sc_raw_turn (fun _ _ _ _ _ _ us hl => match us, hl with | [_, _], _ => rfl) fun cdv A outer s H E xr hp tk =>
    show TrSs _ _ _ m_raw_turn from (trs_one (trs_ret (tr_bin ok_sub (tr_bin ok_mul (tr_ixN (i := 0) tr_int) (tr_ixN (i := 1) tr_int)) (tr_bin ok_mul (tr_ixN (i := 0) tr_int) (tr_ixN (i := 1) tr_int)))))
theorem ok_check_corner (T : Tb K mg) : Cal P w K mg base "check_corner" 2 6 f_check_corner := by
  obtain ⟨f, fd, F, hm⟩ := T.u_check_corner
  exact cal_mk F hm sc_check_corner (fun _ _ _ _ _ _ us hl => match us, hl with | [_, _], _ => rfl) fun cdv A outer s H E xr hp tk =>
    show TrSs _ _ _ m_check_corner from (trs_cons (trs_drop (tr_fn (ok_check_ray T) xr (passAt tk) (tr_cons (tr_var (i := 0)) tr_nil) (len_cons len_nil))) (trs_cons (trs_drop (tr_fn (ok_check_ray T) xr (passAt tk) (tr_cons (tr_var (i := 1)) tr_nil) (len_cons len_nil))) (trs_one (trs_if (trT_cmp (ok_leA xr) (tr_fn (ok_raw_turn T) xr (passAt tk) (tr_cons (tr_var (i := 0)) (tr_cons (tr_var (i := 1)) tr_nil)) (len_cons (len_cons len_nil))) tr_int) (trs_one (trs_raise T.x_NoCorner xr.calm tk)) trs_nil))))
theorem ok_half_of (T : Tb K mg) : Cal P w K mg base "half_of" 1 1 f_half_of := by
  obtain ⟨f, fd, F, hm⟩ := T.u_half_of
  exact cal_mk F hm sc_half_of (fun _ _ _ _ _ _ us hl => match us, hl with | [_], _ => rfl) fun cdv A outer s H E xr hp tk =>
    show TrSs _ _ _ m_half_of from (trs_one (trs_ret (tr_if (TrW.pt (trW_or (trT_cmp (ok_gtA xr) (tr_ixN (i := 0) tr_int) tr_int) (trW_or1 (TrW.pt (trW_and (trT_cmp (ok_eq xr) (tr_ixN (i := 0) tr_int) tr_int) (trW_and1 (trT_cmp (ok_gtA xr) (tr_ixN (i := 0) tr_int) tr_int))))))) tr_int tr_int)))
theorem ok_comes_ahead (T : Tb K mg) : Cal P w K mg base "comes_ahead" 2 2 f_comes_ahead := by
  obtain ⟨f, fd, F, hm⟩ := T.u_comes_ahead
  exact cal_mk F hm sc_comes_ahead (fun _ _ _ _ _ _ us hl => match us, hl with | [_, _], _ => rfl) fun cdv A outer s H E xr hp tk =>
    show TrSs _ _ _ m_comes_ahead from (trs_cons (trs_par (i := 2) (j := 3) (tr_cons (tr_fn (ok_half_of T) xr (passAt tk) (tr_cons (tr_var (i := 0)) tr_nil) (len_cons len_nil)) (tr_cons (tr_fn (ok_half_of T) xr (passAt tk) (tr_cons (tr_var (i := 1)) tr_nil) (len_cons len_nil)) tr_nil)) xr.calm xr.nd) (trs_one (trs_ret (tr_or (tr_cmp (ok_ltA xr) (tr_var (i := 2)) (tr_var (i := 3))) (tr_one (tr_and (tr_cmp (ok_eq xr) (tr_var (i := 2)) (tr_var (i := 3))) (tr_one (tr_cmp (ok_gtA xr) (tr_fn (ok_raw_turn T) xr (passAt tk) (tr_cons (tr_var (i := 0)) (tr_cons (tr_var (i := 1)) tr_nil)) (len_cons (len_cons len_nil))) tr_int))))))))
theorem ok_by_angle (T : Tb K mg) : Cal P w K mg base "by_angle" 1 3 f_by_angle := by
  obtain ⟨f, fd, F, hm⟩ := T.u_by_angle
  exact cal_mk F hm sc_by_angle (fun _ _ _ _ _ _ us hl => match us, hl with | [_], _ => rfl) fun cdv A outer s H E xr hp tk =>
    show TrSs _ _ _ m_by_angle from (trs_cons (trs_set (i := 1) (tr_lst tr_nil) xr.nd) (trs_cons (trs_for (tri_it (tr_var (i := 0))) (trg_name (i := 2) xr.nd) (trs_one (trs_if (trT_cmpP (i := 1) (opv_notInA xr) (tr_var (i := 2))) (trs_one (trs_drop (tr_m2 (i := 1) PySem.F.slot_list_insert PySem.F.type_list_insert m2_ins (tr_bi fv_len (tr_val (tr_lcO (own := [("one", 3)]) (js := [3]) (i := 1) (show BlkOk ["rays", "found", "ray", "one"] (defScope s_by_angle) _ [("one", 3)] from ⟨rfl, by decide +kernel, by decide +kernel, by decide +kernel, by decide +kernel⟩) xr.calm xr.nd (fun _ _ _ _ _ => (trb_name (i := 3) xr.blk.nd)) (fun _ _ _ _ _ => (trp_one (trT_val (tr_fn (ok_comes_ahead T) xr.blk passF (tr_cons (tr_var (i := 3)) (tr_cons (tr_var (i := 2)) tr_nil)) (len_cons (len_cons len_nil)))))) (fun _ _ _ _ _ => (tr_var (i := 3))))) (by rfl) T.n_len boot_len) (tr_var (i := 2))))) trs_nil)) hp xr.calm) (trs_one (trs_ret (tr_varO (i := 1))))))
theorem ok_rays_within (T : Tb K mg) : Cal P w K mg base "rays_within" 3 7 f_rays_within := by
  obtain ⟨f, fd, F, hm⟩ := T.u_rays_within
  exact cal_mk F hm sc_rays_within (fun _ _ _ _ _ _ us hl => match us, hl with | [_, _, _], _ => rfl) fun cdv A outer s H E xr hp tk =>
    show TrSs _ _ _ m_rays_within from (trs_cons (trs_drop (tr_fn (ok_check_corner T) xr (passAt tk) (tr_cons (tr_var (i := 0)) (tr_cons (tr_var (i := 1)) tr_nil)) (len_cons (len_cons len_nil)))) (trs_cons (trs_if (trT_not (trT_val (tr_fn (ok_is_within T) xr (passAt tk) (tr_cons (tr_var (i := 2)) (tr_cons tr_int (tr_cons (tr_const T.c_MOST_WITHIN) tr_nil))) (len_cons (len_cons (len_cons len_nil)))))) (trs_one (trs_raise T.x_NoNumber xr.calm tk)) trs_nil) (trs_cons (trs_set (i := 3) (tr_lst tr_nil) xr.nd) (trs_cons (trs_for (tri_range2 (tr_neg (tr_var (i := 2))) (tr_bin ok_add (tr_var (i := 2)) tr_int) (by rfl) T.n_range) (trg_name (i := 4) xr.nd) (trs_one (trs_drop (tr_m1 (i := 3) PySem.F.slot_list_extend PySem.F.type_list_extend m1_ext (tr_lc (own := [("y", 5)]) (js := [5]) (show BlkOk ["one", "other", "most", "some", "x", "y", "ray"] (defScope s_rays_within) _ [("y", 5)] from ⟨rfl, by decide +kernel, by decide +kernel, by decide +kernel, by decide +kernel⟩) xr.calm xr.nd (tri_range2 (tr_neg (tr_var (i := 2))) (tr_bin ok_add (tr_var (i := 2)) tr_int) (by rfl) T.n_range) (fun _ _ _ _ _ => (trb_name (i := 5) xr.blk.nd)) (fun _ _ _ _ _ => (trp_one (trT_cmp (ok_eq xr.blk) (tr_fn (ok_common_divisor T) xr.blk passF (tr_cons (tr_var (i := 4)) (tr_cons (tr_var (i := 5)) tr_nil)) (len_cons (len_cons len_nil))) tr_int))) (fun _ _ _ _ _ => (tr_tup (tr_cons (tr_var (i := 4)) (tr_cons (tr_var (i := 5)) tr_nil)))))))) hp xr.calm) (trs_one (trs_ret (tr_ty fv_tup (tr_val (tr_fn (ok_by_angle T) xr (passAt tk) (tr_cons (tr_lcO (own := [("ray", 6)]) (js := [6]) (i := 3) (show BlkOk ["one", "other", "most", "some", "x", "y", "ray"] (defScope s_rays_within) _ [("ray", 6)] from ⟨rfl, by decide +kernel, by decide +kernel, by decide +kernel, by decide +kernel⟩) xr.calm xr.nd (fun _ _ _ _ _ => (trb_name (i := 6) xr.blk.nd)) (fun _ _ _ _ _ => (trp_one (TrW.pt (trW_and (trT_cmp (ok_gtA xr.blk) (tr_fn (ok_raw_turn T) xr.blk passF (tr_cons (tr_var (i := 0)) (tr_cons (tr_var (i := 6)) tr_nil)) (len_cons (len_cons len_nil))) tr_int) (trW_and1 (trT_cmp (ok_gtA xr.blk) (tr_fn (ok_raw_turn T) xr.blk passF (tr_cons (tr_var (i := 6)) (tr_cons (tr_var (i := 1)) tr_nil)) (len_cons (len_cons len_nil))) tr_int)))))) (fun _ _ _ _ _ => (tr_var (i := 6)))) tr_nil) (len_cons len_nil))) (by rfl) T.n_tuple boot_tuple)))))))
theorem ok_sized_rays (T : Tb K mg) : Cal P w K mg base "sized_rays" 1 2 f_sized_rays := by
  obtain ⟨f, fd, F, hm⟩ := T.u_sized_rays
  exact cal_mk F hm sc_sized_rays (fun _ _ _ _ _ _ us hl => match us, hl with | [_], _ => rfl) fun cdv A outer s H E xr hp tk =>
    show TrSs _ _ _ m_sized_rays from (trs_cons (trs_set (i := 1) (tr_lst tr_nil) xr.nd) (trs_cons (trs_for (tri_range2 (tr_neg (tr_var (i := 0))) (tr_bin ok_add (tr_var (i := 0)) tr_int) (by rfl) T.n_range) (trg_name (i := 2) xr.nd) (trs_cons (trs_set (i := 3) (tr_bin ok_sub (tr_var (i := 0)) (tr_bi fv_abs (tr_peek (i := 2)) (by rfl) T.n_abs boot_abs)) xr.nd) (trs_one (trs_drop (tr_m1 (i := 1) PySem.F.slot_list_extend PySem.F.type_list_extend m1_ext (tr_lc (own := [("y", 4)]) (js := [4]) (show BlkOk ["size", "found", "x", "rest", "y"] (defScope s_sized_rays) _ [("y", 4)] from ⟨rfl, by decide +kernel, by decide +kernel, by decide +kernel, by decide +kernel⟩) xr.calm xr.nd (tri_it (tr_if (trT_cmp (ok_gtA xr) (tr_var (i := 3)) tr_int) (tr_lst (tr_cons (tr_neg (tr_var (i := 3))) (tr_cons (tr_var (i := 3)) tr_nil))) (tr_lst (tr_cons tr_int tr_nil)))) (fun _ _ _ _ _ => (trb_name (i := 4) xr.blk.nd)) (fun _ _ _ _ _ => (trp_one (trT_cmp (ok_eq xr.blk) (tr_fn (ok_common_divisor T) xr.blk passF (tr_cons (tr_var (i := 2)) (tr_cons (tr_var (i := 4)) tr_nil)) (len_cons (len_cons len_nil))) tr_int))) (fun _ _ _ _ _ => (tr_tup (tr_cons (tr_var (i := 2)) (tr_cons (tr_var (i := 4)) tr_nil))))))))) hp xr.calm) (trs_one (trs_ret (tr_varO (i := 1))))))
theorem ok_simplest (T : Tb K mg) : Cal P w K mg base "simplest" 2 7 f_simplest := by
  obtain ⟨f, fd, F, hm⟩ := T.u_simplest
  exact cal_mk F hm sc_simplest (fun _ _ _ _ _ _ us hl => match us, hl with | [_, _], _ => rfl) fun cdv A outer s H E xr hp tk =>
    show TrSs _ _ _ m_simplest from (trs_cons (trs_drop (tr_fn (ok_check_corner T) xr (passAt tk) (tr_cons (tr_var (i := 0)) (tr_cons (tr_var (i := 1)) tr_nil)) (len_cons (len_cons len_nil)))) (trs_cons (trs_par (i := 2) (j := 3) (tr_cons tr_int (tr_cons (tr_lst tr_nil) tr_nil)) xr.calm xr.nd) (trs_cons (trs_while 200 (trT_cmp (ok_eq xr) (tr_bi fv_len (tr_peek (i := 3)) (by rfl) T.n_len boot_len) tr_int) (trs_cons (trs_aug (i := 2) tr_int xr.nd) (trs_one (trs_setLc (i := 3) (own := [("ray", 4)]) (js := [4]) (show BlkOk ["one", "other", "size", "some", "ray"] (defScope s_simplest) _ [("ray", 4)] from ⟨rfl, by decide +kernel, by decide +kernel, by decide +kernel, by decide +kernel⟩) xr.calm xr.nd (tri_it (tr_fn (ok_sized_rays T) xr (passAt tk) (tr_cons (tr_var (i := 2)) tr_nil) (len_cons len_nil))) (fun _ _ _ _ _ => (trb_name (i := 4) xr.blk.nd)) (fun _ _ _ _ _ => (trp_one (TrW.pt (trW_and (trT_cmp (ok_gtA xr.blk) (tr_fn (ok_raw_turn T) xr.blk passF (tr_cons (tr_var (i := 0)) (tr_cons (tr_var (i := 4)) tr_nil)) (len_cons (len_cons len_nil))) tr_int) (trW_and1 (trT_cmp (ok_gtA xr.blk) (tr_fn (ok_raw_turn T) xr.blk passF (tr_cons (tr_var (i := 4)) (tr_cons (tr_var (i := 1)) tr_nil)) (len_cons (len_cons len_nil))) tr_int)))))) (fun _ _ _ _ _ => (tr_var (i := 4)))))) hp) (trs_one (trs_ret (tr_ixN (i := 3) tr_int))))))
theorem ok_are_dots (T : Tb K mg) : Cal P w K mg base "are_dots" 1 4 f_are_dots := by
  obtain ⟨f, fd, F, hm⟩ := T.u_are_dots
  exact cal_mk F hm sc_are_dots (fun _ _ _ _ _ _ us hl => match us, hl with | [_], _ => rfl) fun cdv A outer s H E xr hp tk =>
    show TrSs _ _ _ m_are_dots from (trs_one (trs_ret (tr_and (tr_isi (by simp) (tr_peek (i := 0)) (by rfl) T.n_isinstance (by rfl) T.n_tuple boot_tuple) (tr_and (tr_chain (ok_leA xr) (ok_leA xr) tr_int (tr_bi fv_len (tr_peek (i := 0)) (by rfl) T.n_len boot_len) (tr_const T.c_MOST_DOTS)) (tr_one (tr_bi (fv_all xr.calm) (tr_val (tr_lc (own := [("one", 1)]) (js := [1]) (show BlkOk ["thing", "one"] (defScope s_are_dots) _ [("one", 1)] from ⟨rfl, by decide +kernel, by decide +kernel, by decide +kernel, by decide +kernel⟩) xr.calm xr.nd (tri_it (tr_var (i := 0))) (fun _ _ _ _ _ => (trb_name (i := 1) xr.blk.nd)) (fun _ _ _ _ _ => trp_nil) (fun _ _ _ _ _ => (tr_fn (ok_is_dot T) xr.blk passF (tr_cons (tr_var (i := 1)) tr_nil) (len_cons len_nil))))) (by rfl) T.n_all boot_all))))))
theorem ok_is_on_way (T : Tb K mg) : Cal P w K mg base "is_on_way" 2 2 f_is_on_way := by
  obtain ⟨f, fd, F, hm⟩ := T.u_is_on_way
  exact cal_mk F hm sc_is_on_way (fun _ _ _ _ _ _ us hl => match us, hl with | [_, _], _ => rfl) fun cdv A outer s H E xr hp tk =>
    show TrSs _ _ _ m_is_on_way from (trs_cons (trs_if (trT_cmp (ok_ne xr) (tr_fn (ok_raw_turn T) xr (passAt tk) (tr_cons (tr_var (i := 0)) (tr_cons (tr_var (i := 1)) tr_nil)) (len_cons (len_cons len_nil))) tr_int) (trs_one (trs_ret tr_bl)) trs_nil) (trs_one (trs_ret (tr_and (tr_cmp (ok_ne xr) (tr_var (i := 0)) (tr_var (i := 1))) (tr_one (tr_chain (ok_leA xr) (ok_leA xr) tr_int (tr_bin ok_add (tr_bin ok_mul (tr_ixN (i := 0) tr_int) (tr_ixN (i := 1) tr_int)) (tr_bin ok_mul (tr_ixN (i := 0) tr_int) (tr_ixN (i := 1) tr_int))) (tr_bin ok_add (tr_bin ok_mul (tr_ixN (i := 1) tr_int) (tr_ixN (i := 1) tr_int)) (tr_bin ok_mul (tr_ixN (i := 1) tr_int) (tr_ixN (i := 1) tr_int)))))))))
theorem ok_is_seen (T : Tb K mg) : Cal P w K mg base "is_seen" 2 5 f_is_seen := by
  obtain ⟨f, fd, F, hm⟩ := T.u_is_seen
  exact cal_mk F hm sc_is_seen (fun _ _ _ _ _ _ us hl => match us, hl with | [_, _], _ => rfl) fun cdv A outer s H E xr hp tk =>
    show TrSs _ _ _ m_is_seen from (trs_cons (trs_if (trT_not (trT_val (tr_fn (ok_are_dots T) xr (passAt tk) (tr_cons (tr_var (i := 0)) tr_nil) (len_cons len_nil)))) (trs_one (trs_raise T.x_NoDots xr.calm tk)) trs_nil) (trs_cons (trs_if (trT_not (trT_val (tr_fn (ok_is_dot T) xr (passAt tk) (tr_cons (tr_var (i := 1)) tr_nil) (len_cons len_nil)))) (trs_one (trs_raise T.x_NoDot xr.calm tk)) trs_nil) (trs_one (trs_ret (tr_not (tr_bi (fv_any xr.calm) (tr_val (tr_lc (own := [("one", 2)]) (js := [2]) (show BlkOk ["dots", "dot", "one"] (defScope s_is_seen) _ [("one", 2)] from ⟨rfl, by decide +kernel, by decide +kernel, by decide +kernel, by decide +kernel⟩) xr.calm xr.nd (tri_it (tr_var (i := 0))) (fun _ _ _ _ _ => (trb_name (i := 2) xr.blk.nd)) (fun _ _ _ _ _ => (trp_one (trT_cmp (ok_ne xr.blk) (tr_var (i := 2)) (tr_var (i := 1))))) (fun _ _ _ _ _ => (tr_fn (ok_is_on_way T) xr.blk passF (tr_cons (tr_var (i := 2)) (tr_cons (tr_var (i := 1)) tr_nil)) (len_cons (len_cons len_nil)))))) (by rfl) T.n_any boot_any))))))
theorem ok__law_divisor (T : Tb K mg) : Cal P w K mg base "_law_divisor" 2 1 f__law_divisor := by
  obtain ⟨f, fd, F, hm⟩ := T.u__law_divisor
  exact cal_mk F hm sc__law_divisor (fun _ _ _ _ _ _ us hl => match us, hl with | [_, _], _ => rfl) fun cdv A outer s H E xr hp tk =>
    show TrSs _ _ _ m__law_divisor from (trs_cons (trs_par (i := 0) (j := 1) (tr_cons (tr_bi fv_abs (tr_peek (i := 0)) (by rfl) T.n_abs boot_abs) (tr_cons (tr_bi fv_abs (tr_peek (i := 1)) (by rfl) T.n_abs boot_abs) tr_nil)) xr.calm xr.nd) (trs_cons (trs_while 200 (trT_cmp (ok_gtA xr) (tr_var (i := 1)) tr_int) (trs_one (trs_par (i := 0) (j := 1) (tr_cons (tr_var (i := 1)) (tr_cons (tr_bin ok_mod (tr_ty fv_int (tr_peek (i := 0)) (by rfl) T.n_int boot_int) (tr_var (i := 1))) tr_nil)) xr.calm xr.nd)) hp) (trs_one (trs_ret (tr_varO (i := 0))))))
theorem ok__law_draw (T : Tb K mg) : Cal P w K mg base "_law_draw" 2 1 f__law_draw := by
  obtain ⟨f, fd, F, hm⟩ := T.u__law_draw
  exact cal_mk F hm sc__law_draw (fun _ _ _ _ _ _ us hl => match us, hl with | [_, _], _ => rfl) fun cdv A outer s H E xr hp tk =>
    show TrSs _ _ _ m__law_draw from (trs_cons (trs_if (TrW.pt (trW_and (trT_cmp (ok_eq xr) (tr_ixN (i := 0) tr_int) tr_int) (trW_and1 (trT_cmp (ok_ltA xr) (tr_ixN (i := 0) tr_int) (tr_bi fv_len (tr_val (tr_ixN (i := 0) tr_int)) (by rfl) T.n_len boot_len))))) (trs_cons (trs_set (i := 2) (tr_ix (tr_ixN (i := 0) tr_int) (tr_ixN (i := 0) tr_int)) xr.nd) (trs_cons (trs_setIx (i := 0) (tr_bin ok_add (tr_ixN (i := 0) tr_int) tr_int) tr_int) (trs_cons (trs_setIx (i := 0) (tr_bin ok_mod (tr_ty fv_int (tr_val (tr_bin ok_add (tr_bin ok_add (tr_bin ok_mul (tr_ixN (i := 0) tr_int) tr_int) (tr_bin ok_mul (tr_var (i := 2)) tr_int)) tr_int)) (by rfl) T.n_int boot_int) tr_int) tr_int) (trs_one (trs_if (trT_cmp (ok_geA xr) (tr_var (i := 2)) (tr_bin ok_pow tr_int tr_int)) (trs_one (trs_setIx (i := 0) (tr_var (i := 2)) tr_int)) trs_nil))))) trs_nil) (trs_cons (trs_if (trT_cmp (ok_gtA xr) (tr_ixN (i := 0) tr_int) tr_int) (trs_cons (trs_set (i := 3) (tr_bin ok_mod (tr_ty fv_int (tr_val (tr_ixN (i := 0) tr_int)) (by rfl) T.n_int boot_int) (tr_var (i := 1))) xr.nd) (trs_cons (trs_setIx (i := 0) (tr_bin ok_div (tr_ixN (i := 0) tr_int) (tr_var (i := 1))) tr_int) (trs_one (trs_ret (tr_varO (i := 3)))))) trs_nil) (trs_cons (trs_setIx (i := 0) (tr_bin ok_add (tr_ixN (i := 0) tr_int) tr_int) tr_int) (trs_cons (trs_set (i := 4) (tr_bin ok_mod (tr_ty fv_int (tr_val (tr_bin ok_mul (tr_ty fv_int (tr_val (tr_bin ok_add (tr_ixN (i := 0) tr_int) (tr_bin ok_mul tr_int (tr_ixN (i := 0) tr_int)))) (by rfl) T.n_int boot_int) tr_int)) (by rfl) T.n_int boot_int) tr_int) xr.nd) (trs_cons (trs_set (i := 4) (tr_bin ok_mod (tr_ty fv_int (tr_val (tr_bin ok_mul (tr_var (i := 4)) (tr_bin ok_add (tr_bin ok_div (tr_var (i := 4)) tr_int) tr_int))) (by rfl) T.n_int boot_int) tr_int) xr.nd) (trs_cons (trs_set (i := 4) (tr_bin ok_mod (tr_ty fv_int (tr_val (tr_bin ok_mul (tr_var (i := 4)) (tr_bin ok_add (tr_bin ok_div (tr_var (i := 4)) tr_int) tr_int))) (by rfl) T.n_int boot_int) tr_int) xr.nd) (trs_one (trs_ret (tr_bin ok_mod (tr_ty fv_int (tr_val (tr_bin ok_div (tr_var (i := 4)) tr_int)) (by rfl) T.n_int boot_int) (tr_var (i := 1)))))))))))
theorem ok__law_ray (T : Tb K mg) : Cal P w K mg base "_law_ray" 2 2 f__law_ray := by
  obtain ⟨f, fd, F, hm⟩ := T.u__law_ray
  exact cal_mk F hm sc__law_ray (fun _ _ _ _ _ _ us hl => match us, hl with | [_, _], _ => rfl) fun cdv A outer s H E xr hp tk =>
    show TrSs _ _ _ m__law_ray from (trs_cons (trs_for (tri_range1 tr_int (by rfl) T.n_range) (trg_name (i := 2) xr.nd) (trs_cons (trs_set (i := 3) (tr_tup (tr_cons (tr_bin ok_sub (tr_fnIO (i := 0) (ok__law_draw T) xr (passAt tk) (tr_cons (tr_bin ok_add (tr_bin ok_mul tr_int (tr_var (i := 1))) tr_int) tr_nil) (len_cons len_nil)) (tr_var (i := 1))) (tr_cons (tr_bin ok_sub (tr_fnIO (i := 0) (ok__law_draw T) xr (passAt tk) (tr_cons (tr_bin ok_add (tr_bin ok_mul tr_int (tr_var (i := 1))) tr_int) tr_nil) (len_cons len_nil)) (tr_var (i := 1))) tr_nil))) xr.nd) (trs_one (trs_if (trT_cmp (ok_eq xr) (tr_fn (ok__law_divisor T) xr (passAt tk) (tr_cons (tr_ixN (i := 3) tr_int) (tr_cons (tr_ixN (i := 3) tr_int) tr_nil)) (len_cons (len_cons len_nil))) tr_int) (trs_one (trs_ret (tr_varO (i := 3)))) trs_nil))) hp xr.calm) (trs_one (trs_ret (tr_tup (tr_cons tr_int (tr_cons tr_int tr_nil))))))
theorem ok__law_turn (T : Tb K mg) : Cal P w K mg base "_law_turn" 2 1 f__law_turn := by
  obtain ⟨f, fd, F, hm⟩ := T.u__law_turn
  exact cal_mk F hm sc__law_turn (fun _ _ _ _ _ _ us hl => match us, hl with | [_, _], _ => rfl) fun cdv A outer s H E xr hp tk =>
    show TrSs _ _ _ m__law_turn from (trs_one (trs_ret (tr_bin ok_sub (tr_bin ok_mul (tr_ixN (i := 0) tr_int) (tr_ixN (i := 1) tr_int)) (tr_bin ok_mul (tr_ixN (i := 0) tr_int) (tr_ixN (i := 1) tr_int)))))
theorem ok__law_sorted_round (T : Tb K mg) : Cal P w K mg base "_law_sorted_round" 1 2 f__law_sorted_round := by
  obtain ⟨f, fd, F, hm⟩ := T.u__law_sorted_round
  exact cal_mk F hm sc__law_sorted_round (fun _ _ _ _ _ _ us hl => match us, hl with | [_], _ => rfl) fun cdv A outer s H E xr hp tk =>
    show TrSs _ _ _ m__law_sorted_round from (trs_cons (trs_set (i := 1) (tr_lst tr_nil) xr.nd) (trs_cons (trs_for (tri_it (tr_var (i := 0))) (trg_name (i := 2) xr.nd) (trs_cons (trs_set (i := 3) (tr_if (TrW.pt (trW_or (trT_cmp (ok_ltA xr) (tr_ixN (i := 2) tr_int) tr_int) (trW_or1 (TrW.pt (trW_and (trT_cmp (ok_eq xr) (tr_ixN (i := 2) tr_int) tr_int) (trW_and1 (trT_cmp (ok_ltA xr) (tr_ixN (i := 2) tr_int) tr_int))))))) tr_int tr_int) xr.nd) (trs_cons (trs_set (i := 4) tr_int xr.nd) (trs_cons (trs_for (tri_it (tr_var (i := 1))) (trg_tup (trgs_cons (i := 5) (trgs_cons (i := 6) trgs_nil xr.nd) xr.nd) xr.calm) (trs_one (trs_set (i := 4) (tr_bin ok_add (tr_var (i := 4)) (tr_ty fv_int (tr_val (tr_or (tr_cmp (ok_ltA xr) (tr_var (i := 6)) (tr_var (i := 3))) (tr_one (tr_and (tr_cmp (ok_eq xr) (tr_var (i := 6)) (tr_var (i := 3))) (tr_one (tr_cmp (ok_gtA xr) (tr_fn (ok__law_turn T) xr (passAt tk) (tr_cons (tr_var (i := 5)) (tr_cons (tr_var (i := 2)) tr_nil)) (len_cons (len_cons len_nil))) tr_int)))))) (by rfl) T.n_int boot_int)) xr.nd)) hp xr.calm) (trs_one (trs_if (trT_cmp (ok_notInA xr) (tr_tup (tr_cons (tr_var (i := 2)) (tr_cons (tr_var (i := 3)) tr_nil))) (tr_var (i := 1))) (trs_one (trs_set (i := 1) (tr_bin ok_add (tr_bin ok_add (tr_slN (i := 1) tr_ono (tr_osome (tr_var (i := 4)))) (tr_lst (tr_cons (tr_tup (tr_cons (tr_var (i := 2)) (tr_cons (tr_var (i := 3)) tr_nil))) tr_nil))) (tr_slN (i := 1) (tr_osome (tr_var (i := 4))) tr_ono)) xr.nd)) trs_nil))))) hp xr.calm) (trs_one (trs_ret (tr_lc (own := [("ray", 2), ("half", 3)]) (js := [2, 3]) (show BlkOk ["spokes", "found", "ray", "half", "ahead", "one", "side"] (defScope s__law_sorted_round) _ [("ray", 2), ("half", 3)] from ⟨rfl, by decide +kernel, by decide +kernel, by decide +kernel, by decide +kernel⟩) xr.calm xr.nd (tri_it (tr_var (i := 1))) (fun _ _ _ _ _ => (trb_tup (trsb_cons (i := 2) (trsb_cons (i := 3) trsb_nil xr.blk.nd) xr.blk.nd) xr.blk.calm)) (fun _ _ _ _ _ => trp_nil) (fun _ _ _ _ _ => (tr_var (i := 2))))))))
theorem ok__law_between (T : Tb K mg) : Cal P w K mg base "_law_between" 3 3 f__law_between := by
  obtain ⟨f, fd, F, hm⟩ := T.u__law_between
  exact cal_mk F hm sc__law_between (fun _ _ _ _ _ _ us hl => match us, hl with | [_, _, _], _ => rfl) fun cdv A outer s H E xr hp tk =>
    show TrSs _ _ _ m__law_between from (trs_cons (trs_set (i := 3) (tr_lst tr_nil) xr.nd) (trs_cons (trs_for (tri_range2 (tr_bin ok_sub tr_int (tr_var (i := 2))) (tr_bin ok_add (tr_var (i := 2)) tr_int) (by rfl) T.n_range) (trg_name (i := 4) xr.nd) (trs_one (trs_for (tri_range2 (tr_bin ok_sub tr_int (tr_var (i := 2))) (tr_bin ok_add (tr_var (i := 2)) tr_int) (by rfl) T.n_range) (trg_name (i := 5) xr.nd) (trs_one (trs_if (TrW.pt (trW_and (trT_cmp (ok_eq xr) (tr_fn (ok__law_divisor T) xr (passAt tk) (tr_cons (tr_var (i := 4)) (tr_cons (tr_var (i := 5)) tr_nil)) (len_cons (len_cons len_nil))) tr_int) (trW_and (trT_cmp (ok_gtA xr) (tr_fn (ok__law_turn T) xr (passAt tk) (tr_cons (tr_var (i := 0)) (tr_cons (tr_tup (tr_cons (tr_var (i := 4)) (tr_cons (tr_var (i := 5)) tr_nil))) tr_nil)) (len_cons (len_cons len_nil))) tr_int) (trW_and1 (trT_cmp (ok_gtA xr) (tr_fn (ok__law_turn T) xr (passAt tk) (tr_cons (tr_tup (tr_cons (tr_var (i := 4)) (tr_cons (tr_var (i := 5)) tr_nil))) (tr_cons (tr_var (i := 1)) tr_nil)) (len_cons (len_cons len_nil))) tr_int))))) (trs_one (trs_drop (tr_m1 (i := 3) PySem.F.slot_list_append PySem.F.type_list_append m1_app (tr_tup (tr_cons (tr_var (i := 4)) (tr_cons (tr_var (i := 5)) tr_nil)))))) trs_nil)) hp xr.calm)) hp xr.calm) (trs_one (trs_ret (tr_fn (ok__law_sorted_round T) xr (passAt tk) (tr_cons (tr_var (i := 3)) tr_nil) (len_cons len_nil))))))
theorem ok__law_is_corner_right (T : Tb K mg) : Cal P w K mg base "_law_is_corner_right" 3 8 f__law_is_corner_right := by
  obtain ⟨f, fd, F, hm⟩ := T.u__law_is_corner_right
  exact cal_mk F hm sc__law_is_corner_right (fun _ _ _ _ _ _ us hl => match us, hl with | [_, _, _], _ => rfl) fun cdv A outer s H E xr hp tk =>
    show TrSs _ _ _ m__law_is_corner_right from (trs_cons (trs_set (i := 3) (tr_bin ok_add tr_int (tr_fnIO (i := 0) (ok__law_draw T) xr (passAt tk) (tr_cons tr_int tr_nil) (len_cons len_nil))) xr.nd) (trs_cons (trs_if (trT_cmp (ok_ne xr) (tr_bi (fv_reprS xr) (tr_val (tr_fn (ok_rays_within T) xr (passAt tk) (tr_cons (tr_var (i := 1)) (tr_cons (tr_var (i := 2)) (tr_cons (tr_var (i := 3)) tr_nil))) (len_cons (len_cons (len_cons len_nil))))) (by rfl) T.n_repr boot_repr) (tr_bi (fv_reprS xr) (tr_val (tr_ty fv_tup (tr_val (tr_fn (ok__law_between T) xr (passAt tk) (tr_cons (tr_var (i := 1)) (tr_cons (tr_var (i := 2)) (tr_cons (tr_var (i := 3)) tr_nil))) (len_cons (len_cons (len_cons len_nil))))) (by rfl) T.n_tuple boot_tuple)) (by rfl) T.n_repr boot_repr)) (trs_one (trs_ret tr_bl)) trs_nil) (trs_cons (trs_set (i := 4) (tr_fn (ok__law_between T) xr (passAt tk) (tr_cons (tr_var (i := 1)) (tr_cons (tr_var (i := 2)) (tr_cons (tr_bin ok_add (tr_bin ok_add (tr_bin ok_add (tr_bi fv_abs (tr_val (tr_ixN (i := 1) tr_int)) (by rfl) T.n_abs boot_abs) (tr_bi fv_abs (tr_val (tr_ixN (i := 2) tr_int)) (by rfl) T.n_abs boot_abs)) (tr_bi fv_abs (tr_val (tr_ixN (i := 1) tr_int)) (by rfl) T.n_abs boot_abs)) (tr_bi fv_abs (tr_val (tr_ixN (i := 2) tr_int)) (by rfl) T.n_abs boot_abs)) tr_nil))) (len_cons (len_cons (len_cons len_nil)))) xr.nd) (trs_one (trs_ret (tr_cmp (ok_eq xr) (tr_bi (fv_reprS xr) (tr_val (tr_fn (ok_simplest T) xr (passAt tk) (tr_cons (tr_var (i := 1)) (tr_cons (tr_var (i := 2)) tr_nil)) (len_cons (len_cons len_nil)))) (by rfl) T.n_repr boot_repr) (tr_bi (fv_reprS xr) (tr_val (tr_ix (tr_bi (fv_minA xr) (tr_val (tr_lc (own := [("x", 5), ("y", 6)]) (js := [5, 6]) (show BlkOk ["hand", "one", "other", "most", "some", "x", "y"] (defScope s__law_is_corner_right) _ [("x", 5), ("y", 6)] from ⟨rfl, by decide +kernel, by decide +kernel, by decide +kernel, by decide +kernel⟩) xr.calm xr.nd (tri_it (tr_var (i := 4))) (fun _ _ _ _ _ => (trb_tup (trsb_cons (i := 5) (trsb_cons (i := 6) trsb_nil xr.blk.nd) xr.blk.nd) xr.blk.calm)) (fun _ _ _ _ _ => trp_nil) (fun _ _ _ _ _ => (tr_tup (tr_cons (tr_bin ok_add (tr_bi fv_abs (tr_peek (i := 5)) (by rfl) T.n_abs boot_abs) (tr_bi fv_abs (tr_peek (i := 6)) (by rfl) T.n_abs boot_abs)) (tr_cons (tr_tup (tr_cons (tr_var (i := 5)) (tr_cons (tr_var (i := 6)) tr_nil))) tr_nil)))))) (by rfl) T.n_min boot_min) tr_int)) (by rfl) T.n_repr boot_repr)))))))
theorem ok__law_any (T : Tb K mg) : Cal P w K mg base "_law_any" 2 2 f__law_any := by
  obtain ⟨f, fd, F, hm⟩ := T.u__law_any
  exact cal_mk F hm sc__law_any (fun _ _ _ _ _ _ us hl => match us, hl with | [_, _], _ => rfl) fun cdv A outer s H E xr hp tk =>
    show TrSs _ _ _ m__law_any from (trs_one (trs_ret (tr_ixN (i := 1) (tr_fnIO (i := 0) (ok__law_draw T) xr (passAt tk) (tr_cons (tr_bi fv_len (tr_peek (i := 1)) (by rfl) T.n_len boot_len) tr_nil) (len_cons len_nil)))))
theorem td__law_told (T : Tb K mg) : Told P w K mg base "_law_told" 0 5 m__law_told := by
  obtain ⟨f, fd, F, hm⟩ := T.u__law_told
  obtain ⟨C_FanError, hC_FanError⟩ := T.m_FanError
  exact ⟨f, s__law_told, fd, ["call", "told", "error", "flags", "names"], "call", F, hm, sc__law_told, rfl, rfl, .inl rfl, by decide, by decide, F.binds (fun _ _ _ _ _ _ us hl => match us, hl with | [_], _ => rfl), fun cdv A outer s H yy oo xr acts =>
    have tk := LamX.takes0 (X := (cxOf CX0 P w K mg base ["call", "told", "error", "flags", "names"] "_law_told" (defScope s__law_told) f cdv A outer s H E0).nox)
    show TrSs0 _ _ _ (m__law_told _) from (trs0_cons (trs0 (trs_set (i := 1) tr_str xr.nd)) (trs0_cons (trs_try (i := 2) rfl rfl xr.nd ⟨rfl, by decide, .inl hC_FanError⟩ tk (fun c b C h1 h2 => T.catq _ _ b C _ h1 h2 hC_FanError) (fun W2 pn xe tk2 hp2 => (trs_one (trs_drop (acts _ _ _ _ _ tk2)))) (fun a oe cls d pn c y hz hv hx => (trs_cons (trs_set (i := 3) (tr_lst (tr_cons (tr_isX (i := 2) hx hz hv T.m_NoCorner (fun b C CT h1 h2 h3 => T.isa _ _ b C CT h1 h2 h3) rfl T.n_isinstance) (tr_cons (tr_isX (i := 2) hx hz hv T.m_NoDot (fun b C CT h1 h2 h3 => T.isa _ _ b C CT h1 h2 h3) rfl T.n_isinstance) (tr_cons (tr_isX (i := 2) hx hz hv T.m_NoDots (fun b C CT h1 h2 h3 => T.isa _ _ b C CT h1 h2 h3) rfl T.n_isinstance) tr_nil)))) xr.nd) (trs_cons (trs_set (i := 3) (tr_bin ok_add (tr_var (i := 3)) (tr_lst (tr_cons (tr_isX (i := 2) hx hz hv T.m_NoNumber (fun b C CT h1 h2 h3 => T.isa _ _ b C CT h1 h2 h3) rfl T.n_isinstance) (tr_cons (tr_isX (i := 2) hx hz hv T.m_NoRay (fun b C CT h1 h2 h3 => T.isa _ _ b C CT h1 h2 h3) rfl T.n_isinstance) tr_nil)))) xr.nd) (trs_cons (trs_set (i := 4) (tr_lst (tr_cons tr_str (tr_cons tr_str (tr_cons tr_str (tr_cons tr_str (tr_cons tr_str tr_nil)))))) xr.nd) (trs_one (trs_set (i := 1) (tr_if (TrW.pt (trW_and (trT_cmp (ok_eqU xr.hu) (tr_rm PySem.F.plainAttrs_list PySem.F.slot_list_count PySem.F.type_list_count (rm_cnt xr.hu65) (tr_var (i := 3)) (tr_cons tr_bl tr_nil)) tr_int) (trW_and1 (trT_val (tr_isXb (i := 2) hx hz hv T.n_ValueError PyProof.Rows.Boot.ValueError (fun b C h1 h2 => T.isb_ValueError _ b C h1 h2) rfl T.n_isinstance))))) (tr_ixN (i := 4) (tr_rm PySem.F.plainAttrs_list PySem.F.slot_list_index PySem.F.type_list_index (rm_idx xr.hu65) (tr_var (i := 3)) (tr_cons tr_bl tr_nil))) tr_str) xr.nd))))))) (trs0_one (trs0 (trs_ret (tr_varO (i := 1)))))))⟩
theorem ok__law_deep (T : Tb K mg) : Cal P w K mg base "_law_deep" 1 2 f__law_deep := by
  obtain ⟨f, fd, F, hm⟩ := T.u__law_deep
  exact cal_mk F hm sc__law_deep (fun _ _ _ _ _ _ us hl => match us, hl with | [_], _ => rfl) fun cdv A outer s H E xr hp tk =>
    show TrSs _ _ _ m__law_deep from (trs_cons (trs_set (i := 1) tr_non xr.nd) (trs_cons (trs_for (tri_range1 (tr_bin ok_add tr_int (tr_fnIO (i := 0) (ok__law_draw T) xr (passAt tk) (tr_cons tr_int tr_nil) (len_cons len_nil))) (by rfl) T.n_range) (trg_name (i := 2) xr.nd) (trs_one (trs_set (i := 1) (tr_if (trT_cmp (ok_eq xr) (tr_fnIO (i := 0) (ok__law_draw T) xr (passAt tk) (tr_cons tr_int tr_nil) (len_cons len_nil)) tr_int) (tr_tup (tr_cons (tr_var (i := 1)) tr_nil)) (tr_lst (tr_cons (tr_var (i := 1)) tr_nil))) xr.nd)) hp xr.calm) (trs_one (trs_ret (tr_varO (i := 1))))))
theorem ok__law_are_refused (T : Tb K mg) (L : Lm K mg base) : Cal P w K mg base "_law_are_refused" 3 10 f__law_are_refused := by
  obtain ⟨f, fd, F, hm⟩ := T.u__law_are_refused
  exact cal_mkL F hm sc__law_are_refused (T.q__law_are_refused _ hm) L.la__law_are_refused (fun _ _ _ _ _ _ us hl => match us, hl with | [_, _, _], _ => rfl) fun c Pt A outer s H E TB hmT hu xr hp tk =>
    show TrSs0 _ _ _ m__law_are_refused from (trs0_cons (trs0 (trs_set (i := 3) (tr_fnIO (i := 0) (ok__law_any T) xr (passAt tk) (tr_cons (tr_lst (tr_cons tr_non (tr_cons (tr_tup (tr_cons tr_int (tr_cons tr_int tr_nil))) (tr_cons (tr_tup (tr_cons tr_int (tr_cons tr_int tr_nil))) (tr_cons (tr_lst (tr_cons tr_int (tr_cons tr_int tr_nil))) (tr_cons (tr_tup (tr_cons tr_int tr_nil)) (tr_cons (tr_tup (tr_cons tr_bl (tr_cons tr_int tr_nil))) (tr_cons tr_int (tr_cons (tr_tup (tr_cons tr_int (tr_cons tr_int tr_nil))) (tr_cons (tr_fnIO (i := 0) (ok__law_deep T) xr (passAt tk) tr_nil len_nil) tr_nil)))))))))) tr_nil) (len_cons len_nil)) xr.nd)) (trs0_cons (trs0 (trs_set (i := 4) (tr_fnIO (i := 0) (ok__law_any T) xr (passAt tk) (tr_cons (tr_lst (tr_cons tr_int (tr_cons tr_int (tr_cons (tr_neg tr_int) (tr_cons tr_non (tr_cons tr_bl (tr_cons tr_str (tr_cons (tr_fnIO (i := 0) (ok__law_deep T) xr (passAt tk) tr_nil len_nil) tr_nil)))))))) tr_nil) (len_cons len_nil)) xr.nd)) (trs0_cons (trs0 (trs_set (i := 5) (tr_fnIO (i := 0) (ok__law_any T) xr (passAt tk) (tr_cons (tr_lst (tr_cons tr_non (tr_cons (tr_tup tr_nil) (tr_cons (tr_lst (tr_cons (tr_tup (tr_cons tr_int (tr_cons tr_int tr_nil))) tr_nil)) (tr_cons (tr_bin ok_mul (tr_tup (tr_cons (tr_tup (tr_cons tr_int (tr_cons tr_int tr_nil))) tr_nil)) tr_int) (tr_cons (tr_tup (tr_cons tr_non tr_nil)) (tr_cons tr_int (tr_cons (tr_fnIO (i := 0) (ok__law_deep T) xr (passAt tk) tr_nil len_nil) tr_nil)))))))) tr_nil) (len_cons len_nil)) xr.nd)) (trs0_cons (trs0 (trs_set (i := 6) (tr_fnIO (i := 0) (ok__law_any T) xr (passAt tk) (tr_cons (tr_lst (tr_cons tr_non (tr_cons (tr_tup (tr_cons tr_int tr_nil)) (tr_cons (tr_lst (tr_cons tr_int (tr_cons tr_int tr_nil))) (tr_cons (tr_tup (tr_cons tr_bl (tr_cons tr_int tr_nil))) (tr_cons tr_int (tr_cons (tr_tup (tr_cons (tr_bin ok_pow tr_int tr_int) (tr_cons tr_int tr_nil))) (tr_cons (tr_fnIO (i := 0) (ok__law_deep T) xr (passAt tk) tr_nil len_nil) tr_nil)))))))) tr_nil) (len_cons len_nil)) xr.nd)) (trs0_cons (trs0 (trs_set (i := 7) (tr_lst (tr_cons (tr_lam (kt := 0) (kb := 7) (td__law_told T) xr rfl TB hmT hu (LamX.lamS_by (by rfl)) (fun _ _ _ _ _ _ _ xq tq => (tr_fn (ok_rays_within T) xq (passAt tq) (tr_cons (tr_var (i := 3)) (tr_cons (tr_var (i := 3)) (tr_cons (tr_var (i := 4)) tr_nil))) (len_cons (len_cons (len_cons len_nil)))))) tr_nil)) xr.nd)) (trs0_cons (trs0 (trs_drop (tr_m1 (i := 7) PySem.F.slot_list_append PySem.F.type_list_append m1_app (tr_lam (kt := 0) (kb := 7) (td__law_told T) xr rfl TB hmT hu (LamX.lamS_by (by rfl)) (fun _ _ _ _ _ _ _ xq tq => (tr_fn (ok_rays_within T) xq (passAt tq) (tr_cons (tr_var (i := 1)) (tr_cons (tr_var (i := 3)) (tr_cons (tr_var (i := 4)) tr_nil))) (len_cons (len_cons (len_cons len_nil))))))))) (trs0_cons (trs0 (trs_set (i := 7) (tr_bin ok_add (tr_var (i := 7)) (tr_lst (tr_cons (tr_lam (kt := 0) (kb := 7) (td__law_told T) xr rfl TB hmT hu (LamX.lamS_by (by rfl)) (fun _ _ _ _ _ _ _ xq tq => (tr_fn (ok_rays_within T) xq (passAt tq) (tr_cons (tr_var (i := 2)) (tr_cons (tr_var (i := 1)) (tr_cons (tr_var (i := 4)) tr_nil))) (len_cons (len_cons (len_cons len_nil)))))) tr_nil))) xr.nd)) (trs0_cons (trs0 (trs_drop (tr_m1 (i := 7) PySem.F.slot_list_append PySem.F.type_list_append m1_app (tr_lam (kt := 0) (kb := 7) (td__law_told T) xr rfl TB hmT hu (LamX.lamS_by (by rfl)) (fun _ _ _ _ _ _ _ xq tq => (tr_fn (ok_rays_within T) xq (passAt tq) (tr_cons (tr_var (i := 1)) (tr_cons (tr_var (i := 2)) (tr_cons (tr_var (i := 4)) tr_nil))) (len_cons (len_cons (len_cons len_nil))))))))) (trs0_cons (trs0 (trs_set (i := 7) (tr_bin ok_add (tr_var (i := 7)) (tr_lst (tr_cons (tr_lam (kt := 0) (kb := 7) (td__law_told T) xr rfl TB hmT hu (LamX.lamS_by (by rfl)) (fun _ _ _ _ _ _ _ xq tq => (tr_fn (ok_simplest T) xq (passAt tq) (tr_cons (tr_var (i := 3)) (tr_cons (tr_var (i := 3)) tr_nil)) (len_cons (len_cons len_nil))))) tr_nil))) xr.nd)) (trs0_cons (trs0 (trs_drop (tr_m1 (i := 7) PySem.F.slot_list_append PySem.F.type_list_append m1_app (tr_lam (kt := 0) (kb := 7) (td__law_told T) xr rfl TB hmT hu (LamX.lamS_by (by rfl)) (fun _ _ _ _ _ _ _ xq tq => (tr_fn (ok_simplest T) xq (passAt tq) (tr_cons (tr_var (i := 1)) (tr_cons (tr_var (i := 3)) tr_nil)) (len_cons (len_cons len_nil)))))))) (trs0_cons (trs0 (trs_set (i := 7) (tr_bin ok_add (tr_var (i := 7)) (tr_lst (tr_cons (tr_lam (kt := 0) (kb := 7) (td__law_told T) xr rfl TB hmT hu (LamX.lamS_by (by rfl)) (fun _ _ _ _ _ _ _ xq tq => (tr_fn (ok_simplest T) xq (passAt tq) (tr_cons (tr_var (i := 2)) (tr_cons (tr_var (i := 1)) tr_nil)) (len_cons (len_cons len_nil))))) tr_nil))) xr.nd)) (trs0_cons (trs0 (trs_drop (tr_m1 (i := 7) PySem.F.slot_list_append PySem.F.type_list_append m1_app (tr_lam (kt := 0) (kb := 7) (td__law_told T) xr rfl TB hmT hu (LamX.lamS_by (by rfl)) (fun _ _ _ _ _ _ _ xq tq => (tr_fn (ok_simplest T) xq (passAt tq) (tr_cons (tr_var (i := 1)) (tr_cons (tr_var (i := 1)) tr_nil)) (len_cons (len_cons len_nil)))))))) (trs0_cons (trs0 (trs_set (i := 7) (tr_bin ok_add (tr_var (i := 7)) (tr_lst (tr_cons (tr_lam (kt := 0) (kb := 5) (td__law_told T) xr rfl TB hmT hu (LamX.lamS_by (by rfl)) (fun _ _ _ _ _ _ _ xq tq => (tr_fn (ok_is_seen T) xq (passAt tq) (tr_cons (tr_var (i := 5)) (tr_cons (tr_var (i := 6)) tr_nil)) (len_cons (len_cons len_nil))))) tr_nil))) xr.nd)) (trs0_cons (trs0 (trs_drop (tr_m1 (i := 7) PySem.F.slot_list_append PySem.F.type_list_append m1_app (tr_lam (kt := 0) (kb := 5) (td__law_told T) xr rfl TB hmT hu (LamX.lamS_by (by rfl)) (fun _ _ _ _ _ _ _ xq tq => (tr_fn (ok_is_seen T) xq (passAt tq) (tr_cons (tr_tup (tr_cons (tr_tup (tr_cons tr_int (tr_cons tr_int tr_nil))) tr_nil)) (tr_cons (tr_var (i := 6)) tr_nil)) (len_cons (len_cons len_nil)))))))) (trs0_one (trs0 (trs_ret (tr_cmp (ok_eq xr) (tr_var (i := 7)) (tr_lst (tr_cons tr_str (tr_cons tr_str (tr_cons tr_str (tr_cons tr_str (tr_cons tr_str (tr_cons tr_str (tr_cons tr_str (tr_cons tr_str (tr_cons tr_str (tr_cons tr_str tr_nil)))))))))))))))))))))))))))))
theorem ok__law_is_own_seen (T : Tb K mg) : Cal P w K mg base "_law_is_own_seen" 2 2 f__law_is_own_seen := by
  obtain ⟨f, fd, F, hm⟩ := T.u__law_is_own_seen
  exact cal_mk F hm sc__law_is_own_seen (fun _ _ _ _ _ _ us hl => match us, hl with | [_, _], _ => rfl) fun cdv A outer s H E xr hp tk =>
    show TrSs _ _ _ m__law_is_own_seen from (trs_cons (trs_for (tri_it (tr_var (i := 0))) (trg_name (i := 2) xr.nd) (trs_one (trs_if (TrW.pt (trW_and (trT_cmp (ok_ne xr) (tr_var (i := 2)) (tr_var (i := 1))) (trW_and (trT_cmp (ok_eq xr) (tr_fn (ok__law_turn T) xr (passAt tk) (tr_cons (tr_var (i := 2)) (tr_cons (tr_var (i := 1)) tr_nil)) (len_cons (len_cons len_nil))) tr_int) (trW_and1 (trT_cmp (ok_gtA xr) (tr_bin ok_add (tr_bin ok_mul (tr_ixN (i := 2) tr_int) (tr_ixN (i := 1) tr_int)) (tr_bin ok_mul (tr_ixN (i := 2) tr_int) (tr_ixN (i := 1) tr_int))) tr_int))))) (trs_one (trs_if (trT_cmp (ok_ltA xr) (tr_bin ok_add (tr_bin ok_pow (tr_ixN (i := 2) tr_int) tr_int) (tr_bin ok_pow (tr_ixN (i := 2) tr_int) tr_int)) (tr_bin ok_add (tr_bin ok_pow (tr_ixN (i := 1) tr_int) tr_int) (tr_bin ok_pow (tr_ixN (i := 1) tr_int) tr_int))) (trs_one (trs_ret tr_bl)) trs_nil)) trs_nil)) hp xr.calm) (trs_one (trs_ret tr_bl)))
theorem fn_law (T : Tb K mg) (L : Lm K mg base) {f : Addr} {fd : FuncData} (F : Fun K "law" "law" s_law f fd) : FnG P w K mg base 11 f fd ["script"] (spD K mg f_law 1) :=
  fn_body F sc_law fun cdv A outer s H E xr hp tk => show TrSs _ _ _ m_law from (trs_cons (trs_set (i := 1) (tr_fn (ok__law_hand T) xr (passAt tk) (tr_cons (tr_var (i := 0)) tr_nil) (len_cons len_nil)) xr.nd) (trs_cons (trs_if (TrW.pt (trW_or (trT_cmp (ok_ne xr) (tr_fn (ok_rays_within T) xr (passAt tk) (tr_cons (tr_tup (tr_cons tr_int (tr_cons tr_int tr_nil))) (tr_cons (tr_tup (tr_cons tr_int (tr_cons tr_int tr_nil))) (tr_cons tr_int tr_nil))) (len_cons (len_cons (len_cons len_nil)))) (tr_tup (tr_cons (tr_tup (tr_cons tr_int (tr_cons tr_int tr_nil))) (tr_cons (tr_tup (tr_cons tr_int (tr_cons tr_int tr_nil))) (tr_cons (tr_tup (tr_cons tr_int (tr_cons tr_int tr_nil))) tr_nil))))) (trW_or1 (trT_cmp (ok_ne xr) (tr_fn (ok_simplest T) xr (passAt tk) (tr_cons (tr_tup (tr_cons tr_int (tr_cons tr_int tr_nil))) (tr_cons (tr_tup (tr_cons tr_int (tr_cons tr_int tr_nil))) tr_nil)) (len_cons (len_cons len_nil))) (tr_tup (tr_cons tr_int (tr_cons tr_int tr_nil))))))) (trs_one (trs_ret tr_bl)) trs_nil) (trs_cons (trs_if (TrW.pt (trW_or (trT_cmp ok_isnot (tr_fn (ok_is_seen T) xr (passAt tk) (tr_cons (tr_tup (tr_cons (tr_tup (tr_cons tr_int (tr_cons tr_int tr_nil))) (tr_cons (tr_tup (tr_cons tr_int (tr_cons tr_int tr_nil))) tr_nil))) (tr_cons (tr_tup (tr_cons tr_int (tr_cons tr_int tr_nil))) tr_nil)) (len_cons (len_cons len_nil))) tr_bl) (trW_or1 (trT_cmp ok_isnot (tr_fn (ok_is_seen T) xr (passAt tk) (tr_cons (tr_tup (tr_cons (tr_tup (tr_cons tr_int (tr_cons tr_int tr_nil))) (tr_cons (tr_tup (tr_cons tr_int (tr_cons tr_int tr_nil))) tr_nil))) (tr_cons (tr_tup (tr_cons tr_int (tr_cons tr_int tr_nil))) tr_nil)) (len_cons (len_cons len_nil))) tr_bl)))) (trs_one (trs_ret tr_bl)) trs_nil) (trs_cons (trs_for (tri_range1 tr_int (by rfl) T.n_range) (trg_name (i := 2) xr.nd) (trs_cons (trs_par (i := 3) (j := 4) (tr_cons (tr_fnIO (i := 1) (ok__law_ray T) xr (passAt tk) (tr_cons tr_int tr_nil) (len_cons len_nil)) (tr_cons (tr_fnIO (i := 1) (ok__law_ray T) xr (passAt tk) (tr_cons tr_int tr_nil) (len_cons len_nil)) tr_nil)) xr.calm xr.nd) (trs_cons (trs_unpack (tr_if (trT_cmp (ok_gtA xr) (tr_fn (ok__law_turn T) xr (passAt tk) (tr_cons (tr_var (i := 3)) (tr_cons (tr_var (i := 4)) tr_nil)) (len_cons (len_cons len_nil))) tr_int) (tr_tup (tr_cons (tr_var (i := 3)) (tr_cons (tr_var (i := 4)) tr_nil))) (tr_tup (tr_cons (tr_var (i := 4)) (tr_cons (tr_var (i := 3)) tr_nil)))) (trg_tup (trgs_cons (i := 3) (trgs_cons (i := 4) trgs_nil xr.nd) xr.nd) xr.calm)) (trs_cons (trs_if (TrW.pt (trW_and (trT_cmp (ok_gtA xr) (tr_fn (ok__law_turn T) xr (passAt tk) (tr_cons (tr_var (i := 3)) (tr_cons (tr_var (i := 4)) tr_nil)) (len_cons (len_cons len_nil))) tr_int) (trW_and1 (trT_not (trT_val (tr_fnIO (i := 1) (ok__law_is_corner_right T) xr (passAt tk) (tr_cons (tr_var (i := 3)) (tr_cons (tr_var (i := 4)) tr_nil)) (len_cons (len_cons len_nil)))))))) (trs_one (trs_ret tr_bl)) trs_nil) (trs_cons (trs_if (TrW.pt (trW_and (trT_cmp (ok_gtA xr) (tr_fn (ok__law_turn T) xr (passAt tk) (tr_cons (tr_var (i := 3)) (tr_cons (tr_var (i := 4)) tr_nil)) (len_cons (len_cons len_nil))) tr_int) (trW_and1 (trT_not (trT_val (tr_fnIO (i := 1) (ok__law_are_refused T L) xr (passAt tk) (tr_cons (tr_var (i := 3)) (tr_cons (tr_var (i := 4)) tr_nil)) (len_cons (len_cons len_nil)))))))) (trs_one (trs_ret tr_bl)) trs_nil) (trs_cons (trs_set (i := 5) (tr_ty fv_tup (tr_val (tr_lc (own := [("at", 7)]) (js := [7]) (show BlkOk ["script", "hand", "lap", "one", "other", "dots", "dot", "at"] (defScope s_law) _ [("at", 7)] from ⟨rfl, by decide +kernel, by decide +kernel, by decide +kernel, by decide +kernel⟩) xr.calm xr.nd (tri_range1 (tr_bin ok_add tr_int (tr_fnIO (i := 1) (ok__law_draw T) xr (passAt tk) (tr_cons tr_int tr_nil) (len_cons len_nil))) (by rfl) T.n_range) (fun _ _ _ _ _ => (trb_name (i := 7) xr.blk.nd)) (fun _ _ _ _ _ => trp_nil) (fun _ _ _ _ _ => (tr_tup (tr_cons (tr_bin ok_sub (tr_fnIO (i := 1) (ok__law_draw T) xr.blk passF (tr_cons tr_int tr_nil) (len_cons len_nil)) tr_int) (tr_cons (tr_bin ok_sub (tr_fnIO (i := 1) (ok__law_draw T) xr.blk passF (tr_cons tr_int tr_nil) (len_cons len_nil)) tr_int) tr_nil)))))) (by rfl) T.n_tuple boot_tuple) xr.nd) (trs_cons (trs_set (i := 5) (tr_bin ok_add (tr_ty fv_tup (tr_val (tr_lc (own := [("dot", 6)]) (js := [6]) (show BlkOk ["script", "hand", "lap", "one", "other", "dots", "dot", "at"] (defScope s_law) _ [("dot", 6)] from ⟨rfl, by decide +kernel, by decide +kernel, by decide +kernel, by decide +kernel⟩) xr.calm xr.nd (tri_it (tr_var (i := 5))) (fun _ _ _ _ _ => (trb_name (i := 6) xr.blk.nd)) (fun _ _ _ _ _ => (trp_one (trT_cmp (ok_ne xr.blk) (tr_var (i := 6)) (tr_tup (tr_cons tr_int (tr_cons tr_int tr_nil)))))) (fun _ _ _ _ _ => (tr_var (i := 6))))) (by rfl) T.n_tuple boot_tuple) (tr_tup (tr_cons (tr_tup (tr_cons tr_int (tr_cons tr_int tr_nil))) tr_nil))) xr.nd) (trs_one (trs_for (tri_it (tr_var (i := 5))) (trg_name (i := 6) xr.nd) (trs_one (trs_if (trT_cmp (ok_ne xr) (tr_bi (fv_reprS xr) (tr_val (tr_fn (ok_is_seen T) xr (passAt tk) (tr_cons (tr_var (i := 5)) (tr_cons (tr_var (i := 6)) tr_nil)) (len_cons (len_cons len_nil)))) (by rfl) T.n_repr boot_repr) (tr_bi (fv_reprS xr) (tr_val (tr_fn (ok__law_is_own_seen T) xr (passAt tk) (tr_cons (tr_var (i := 5)) (tr_cons (tr_var (i := 6)) tr_nil)) (len_cons (len_cons len_nil)))) (by rfl) T.n_repr boot_repr)) (trs_one (trs_ret tr_bl)) trs_nil)) hp xr.calm)))))))) hp xr.calm) (trs_one (trs_ret tr_bl))))))
end
theorem tb_mk {K : PySem.W.Frag} {h : Heap} {mg : Str → Option Value} (X : K.In h) (G : h.Ns mainGlobals mg)
    {g0 : Addr} {od0 an0 : Option Addr} {sl0 : Array (Option Value)} {oc0 kV0 dc0 pm0 cd0 ct0 : Value}
    (a0 : PySem.W.nsIn K mainGlobals "_law_hand" = some (some (.ref g0))) (l0 : K.lookup g0 = some ⟨oc0, od0, .func (PySem.W.fnOf "_law_hand" "_law_hand" (defArgs s__law_hand) (defBody s__law_hand) (defScope s__law_hand) .none kV0 dc0 pm0 an0 cd0 ct0), sl0⟩) (c0 : PySem.W.codeIn K cd0 "_law_hand" = true) (k0 : PySem.W.keepIn K (.ref g0) = true)
    {g1 : Addr} {od1 an1 : Option Addr} {sl1 : Array (Option Value)} {oc1 kV1 dc1 pm1 cd1 ct1 : Value}
    (a1 : PySem.W.nsIn K mainGlobals "is_integer" = some (some (.ref g1))) (l1 : K.lookup g1 = some ⟨oc1, od1, .func (PySem.W.fnOf "is_integer" "is_integer" (defArgs s_is_integer) (defBody s_is_integer) (defScope s_is_integer) .none kV1 dc1 pm1 an1 cd1 ct1), sl1⟩) (c1 : PySem.W.codeIn K cd1 "is_integer" = true) (k1 : PySem.W.keepIn K (.ref g1) = true)
    {g2 : Addr} {od2 an2 : Option Addr} {sl2 : Array (Option Value)} {oc2 kV2 dc2 pm2 cd2 ct2 : Value}
    (a2 : PySem.W.nsIn K mainGlobals "is_within" = some (some (.ref g2))) (l2 : K.lookup g2 = some ⟨oc2, od2, .func (PySem.W.fnOf "is_within" "is_within" (defArgs s_is_within) (defBody s_is_within) (defScope s_is_within) .none kV2 dc2 pm2 an2 cd2 ct2), sl2⟩) (c2 : PySem.W.codeIn K cd2 "is_within" = true) (k2 : PySem.W.keepIn K (.ref g2) = true)
    {g3 : Addr} {od3 an3 : Option Addr} {sl3 : Array (Option Value)} {oc3 kV3 dc3 pm3 cd3 ct3 : Value}
    (a3 : PySem.W.nsIn K mainGlobals "is_dot" = some (some (.ref g3))) (l3 : K.lookup g3 = some ⟨oc3, od3, .func (PySem.W.fnOf "is_dot" "is_dot" (defArgs s_is_dot) (defBody s_is_dot) (defScope s_is_dot) .none kV3 dc3 pm3 an3 cd3 ct3), sl3⟩) (c3 : PySem.W.codeIn K cd3 "is_dot" = true) (k3 : PySem.W.keepIn K (.ref g3) = true)
    {g4 : Addr} {od4 an4 : Option Addr} {sl4 : Array (Option Value)} {oc4 kV4 dc4 pm4 cd4 ct4 : Value}
    (a4 : PySem.W.nsIn K mainGlobals "common_divisor" = some (some (.ref g4))) (l4 : K.lookup g4 = some ⟨oc4, od4, .func (PySem.W.fnOf "common_divisor" "common_divisor" (defArgs s_common_divisor) (defBody s_common_divisor) (defScope s_common_divisor) .none kV4 dc4 pm4 an4 cd4 ct4), sl4⟩) (c4 : PySem.W.codeIn K cd4 "common_divisor" = true) (k4 : PySem.W.keepIn K (.ref g4) = true)
    {g5 : Addr} {od5 an5 : Option Addr} {sl5 : Array (Option Value)} {oc5 kV5 dc5 pm5 cd5 ct5 : Value}
    (a5 : PySem.W.nsIn K mainGlobals "is_ray" = some (some (.ref g5))) (l5 : K.lookup g5 = some ⟨oc5, od5, .func (PySem.W.fnOf "is_ray" "is_ray" (defArgs s_is_ray) (defBody s_is_ray) (defScope s_is_ray) .none kV5 dc5 pm5 an5 cd5 ct5), sl5⟩) (c5 : PySem.W.codeIn K cd5 "is_ray" = true) (k5 : PySem.W.keepIn K (.ref g5) = true)
    {g6 : Addr} {od6 an6 : Option Addr} {sl6 : Array (Option Value)} {oc6 kV6 dc6 pm6 cd6 ct6 : Value}
    (a6 : PySem.W.nsIn K mainGlobals "check_ray" = some (some (.ref g6))) (l6 : K.lookup g6 = some ⟨oc6, od6, .func (PySem.W.fnOf "check_ray" "check_ray" (defArgs s_check_ray) (defBody s_check_ray) (defScope s_check_ray) .none kV6 dc6 pm6 an6 cd6 ct6), sl6⟩) (c6 : PySem.W.codeIn K cd6 "check_ray" = true) (k6 : PySem.W.keepIn K (.ref g6) = true)
    {g7 : Addr} {od7 an7 : Option Addr} {sl7 : Array (Option Value)} {oc7 kV7 dc7 pm7 cd7 ct7 : Value}
    (a7 : PySem.W.nsIn K mainGlobals "raw_turn" = some (some (.ref g7))) (l7 : K.lookup g7 = some ⟨oc7, od7, .func (PySem.W.fnOf "raw_turn" "raw_turn" (defArgs s_raw_turn) (defBody s_raw_turn) (defScope s_raw_turn) .none kV7 dc7 pm7 an7 cd7 ct7), sl7⟩) (c7 : PySem.W.codeIn K cd7 "raw_turn" = true) (k7 : PySem.W.keepIn K (.ref g7) = true)
    {g8 : Addr} {od8 an8 : Option Addr} {sl8 : Array (Option Value)} {oc8 kV8 dc8 pm8 cd8 ct8 : Value}
    (a8 : PySem.W.nsIn K mainGlobals "check_corner" = some (some (.ref g8))) (l8 : K.lookup g8 = some ⟨oc8, od8, .func (PySem.W.fnOf "check_corner" "check_corner" (defArgs s_check_corner) (defBody s_check_corner) (defScope s_check_corner) .none kV8 dc8 pm8 an8 cd8 ct8), sl8⟩) (c8 : PySem.W.codeIn K cd8 "check_corner" = true) (k8 : PySem.W.keepIn K (.ref g8) = true)
    {g9 : Addr} {od9 an9 : Option Addr} {sl9 : Array (Option Value)} {oc9 kV9 dc9 pm9 cd9 ct9 : Value}
    (a9 : PySem.W.nsIn K mainGlobals "half_of" = some (some (.ref g9))) (l9 : K.lookup g9 = some ⟨oc9, od9, .func (PySem.W.fnOf "half_of" "half_of" (defArgs s_half_of) (defBody s_half_of) (defScope s_half_of) .none kV9 dc9 pm9 an9 cd9 ct9), sl9⟩) (c9 : PySem.W.codeIn K cd9 "half_of" = true) (k9 : PySem.W.keepIn K (.ref g9) = true)
    {g10 : Addr} {od10 an10 : Option Addr} {sl10 : Array (Option Value)} {oc10 kV10 dc10 pm10 cd10 ct10 : Value}
    (a10 : PySem.W.nsIn K mainGlobals "comes_ahead" = some (some (.ref g10))) (l10 : K.lookup g10 = some ⟨oc10, od10, .func (PySem.W.fnOf "comes_ahead" "comes_ahead" (defArgs s_comes_ahead) (defBody s_comes_ahead) (defScope s_comes_ahead) .none kV10 dc10 pm10 an10 cd10 ct10), sl10⟩) (c10 : PySem.W.codeIn K cd10 "comes_ahead" = true) (k10 : PySem.W.keepIn K (.ref g10) = true)
    {g11 : Addr} {od11 an11 : Option Addr} {sl11 : Array (Option Value)} {oc11 kV11 dc11 pm11 cd11 ct11 : Value}
    (a11 : PySem.W.nsIn K mainGlobals "by_angle" = some (some (.ref g11))) (l11 : K.lookup g11 = some ⟨oc11, od11, .func (PySem.W.fnOf "by_angle" "by_angle" (defArgs s_by_angle) (defBody s_by_angle) (defScope s_by_angle) .none kV11 dc11 pm11 an11 cd11 ct11), sl11⟩) (c11 : PySem.W.codeIn K cd11 "by_angle" = true) (k11 : PySem.W.keepIn K (.ref g11) = true)
    {g12 : Addr} {od12 an12 : Option Addr} {sl12 : Array (Option Value)} {oc12 kV12 dc12 pm12 cd12 ct12 : Value}
    (a12 : PySem.W.nsIn K mainGlobals "rays_within" = some (some (.ref g12))) (l12 : K.lookup g12 = some ⟨oc12, od12, .func (PySem.W.fnOf "rays_within" "rays_within" (defArgs s_rays_within) (defBody s_rays_within) (defScope s_rays_within) .none kV12 dc12 pm12 an12 cd12 ct12), sl12⟩) (c12 : PySem.W.codeIn K cd12 "rays_within" = true) (k12 : PySem.W.keepIn K (.ref g12) = true)
    {g13 : Addr} {od13 an13 : Option Addr} {sl13 : Array (Option Value)} {oc13 kV13 dc13 pm13 cd13 ct13 : Value}
    (a13 : PySem.W.nsIn K mainGlobals "sized_rays" = some (some (.ref g13))) (l13 : K.lookup g13 = some ⟨oc13, od13, .func (PySem.W.fnOf "sized_rays" "sized_rays" (defArgs s_sized_rays) (defBody s_sized_rays) (defScope s_sized_rays) .none kV13 dc13 pm13 an13 cd13 ct13), sl13⟩) (c13 : PySem.W.codeIn K cd13 "sized_rays" = true) (k13 : PySem.W.keepIn K (.ref g13) = true)
    {g14 : Addr} {od14 an14 : Option Addr} {sl14 : Array (Option Value)} {oc14 kV14 dc14 pm14 cd14 ct14 : Value}
    (a14 : PySem.W.nsIn K mainGlobals "simplest" = some (some (.ref g14))) (l14 : K.lookup g14 = some ⟨oc14, od14, .func (PySem.W.fnOf "simplest" "simplest" (defArgs s_simplest) (defBody s_simplest) (defScope s_simplest) .none kV14 dc14 pm14 an14 cd14 ct14), sl14⟩) (c14 : PySem.W.codeIn K cd14 "simplest" = true) (k14 : PySem.W.keepIn K (.ref g14) = true)
    {g15 : Addr} {od15 an15 : Option Addr} {sl15 : Array (Option Value)} {oc15 kV15 dc15 pm15 cd15 ct15 : Value}
    (a15 : PySem.W.nsIn K mainGlobals "are_dots" = some (some (.ref g15))) (l15 : K.lookup g15 = some ⟨oc15, od15, .func (PySem.W.fnOf "are_dots" "are_dots" (defArgs s_are_dots) (defBody s_are_dots) (defScope s_are_dots) .none kV15 dc15 pm15 an15 cd15 ct15), sl15⟩) (c15 : PySem.W.codeIn K cd15 "are_dots" = true) (k15 : PySem.W.keepIn K (.ref g15) = true)
    {g16 : Addr} {od16 an16 : Option Addr} {sl16 : Array (Option Value)} {oc16 kV16 dc16 pm16 cd16 ct16 : Value}
    (a16 : PySem.W.nsIn K mainGlobals "is_on_way" = some (some (.ref g16))) (l16 : K.lookup g16 = some ⟨oc16, od16, .func (PySem.W.fnOf "is_on_way" "is_on_way" (defArgs s_is_on_way) (defBody s_is_on_way) (defScope s_is_on_way) .none kV16 dc16 pm16 an16 cd16 ct16), sl16⟩) (c16 : PySem.W.codeIn K cd16 "is_on_way" = true) (k16 : PySem.W.keepIn K (.ref g16) = true)
    {g17 : Addr} {od17 an17 : Option Addr} {sl17 : Array (Option Value)} {oc17 kV17 dc17 pm17 cd17 ct17 : Value}
    (a17 : PySem.W.nsIn K mainGlobals "is_seen" = some (some (.ref g17))) (l17 : K.lookup g17 = some ⟨oc17, od17, .func (PySem.W.fnOf "is_seen" "is_seen" (defArgs s_is_seen) (defBody s_is_seen) (defScope s_is_seen) .none kV17 dc17 pm17 an17 cd17 ct17), sl17⟩) (c17 : PySem.W.codeIn K cd17 "is_seen" = true) (k17 : PySem.W.keepIn K (.ref g17) = true)
    {g18 : Addr} {od18 an18 : Option Addr} {sl18 : Array (Option Value)} {oc18 kV18 dc18 pm18 cd18 ct18 : Value}
    (a18 : PySem.W.nsIn K mainGlobals "_law_divisor" = some (some (.ref g18))) (l18 : K.lookup g18 = some ⟨oc18, od18, .func (PySem.W.fnOf "_law_divisor" "_law_divisor" (defArgs s__law_divisor) (defBody s__law_divisor) (defScope s__law_divisor) .none kV18 dc18 pm18 an18 cd18 ct18), sl18⟩) (c18 : PySem.W.codeIn K cd18 "_law_divisor" = true) (k18 : PySem.W.keepIn K (.ref g18) = true)
    {g19 : Addr} {od19 an19 : Option Addr} {sl19 : Array (Option Value)} {oc19 kV19 dc19 pm19 cd19 ct19 : Value}
    (a19 : PySem.W.nsIn K mainGlobals "_law_draw" = some (some (.ref g19))) (l19 : K.lookup g19 = some ⟨oc19, od19, .func (PySem.W.fnOf "_law_draw" "_law_draw" (defArgs s__law_draw) (defBody s__law_draw) (defScope s__law_draw) .none kV19 dc19 pm19 an19 cd19 ct19), sl19⟩) (c19 : PySem.W.codeIn K cd19 "_law_draw" = true) (k19 : PySem.W.keepIn K (.ref g19) = true)
    {g20 : Addr} {od20 an20 : Option Addr} {sl20 : Array (Option Value)} {oc20 kV20 dc20 pm20 cd20 ct20 : Value}
    (a20 : PySem.W.nsIn K mainGlobals "_law_ray" = some (some (.ref g20))) (l20 : K.lookup g20 = some ⟨oc20, od20, .func (PySem.W.fnOf "_law_ray" "_law_ray" (defArgs s__law_ray) (defBody s__law_ray) (defScope s__law_ray) .none kV20 dc20 pm20 an20 cd20 ct20), sl20⟩) (c20 : PySem.W.codeIn K cd20 "_law_ray" = true) (k20 : PySem.W.keepIn K (.ref g20) = true)
    {g21 : Addr} {od21 an21 : Option Addr} {sl21 : Array (Option Value)} {oc21 kV21 dc21 pm21 cd21 ct21 : Value}
    (a21 : PySem.W.nsIn K mainGlobals "_law_turn" = some (some (.ref g21))) (l21 : K.lookup g21 = some ⟨oc21, od21, .func (PySem.W.fnOf "_law_turn" "_law_turn" (defArgs s__law_turn) (defBody s__law_turn) (defScope s__law_turn) .none kV21 dc21 pm21 an21 cd21 ct21), sl21⟩) (c21 : PySem.W.codeIn K cd21 "_law_turn" = true) (k21 : PySem.W.keepIn K (.ref g21) = true)
    {g22 : Addr} {od22 an22 : Option Addr} {sl22 : Array (Option Value)} {oc22 kV22 dc22 pm22 cd22 ct22 : Value}
    (a22 : PySem.W.nsIn K mainGlobals "_law_sorted_round" = some (some (.ref g22))) (l22 : K.lookup g22 = some ⟨oc22, od22, .func (PySem.W.fnOf "_law_sorted_round" "_law_sorted_round" (defArgs s__law_sorted_round) (defBody s__law_sorted_round) (defScope s__law_sorted_round) .none kV22 dc22 pm22 an22 cd22 ct22), sl22⟩) (c22 : PySem.W.codeIn K cd22 "_law_sorted_round" = true) (k22 : PySem.W.keepIn K (.ref g22) = true)
    {g23 : Addr} {od23 an23 : Option Addr} {sl23 : Array (Option Value)} {oc23 kV23 dc23 pm23 cd23 ct23 : Value}
    (a23 : PySem.W.nsIn K mainGlobals "_law_between" = some (some (.ref g23))) (l23 : K.lookup g23 = some ⟨oc23, od23, .func (PySem.W.fnOf "_law_between" "_law_between" (defArgs s__law_between) (defBody s__law_between) (defScope s__law_between) .none kV23 dc23 pm23 an23 cd23 ct23), sl23⟩) (c23 : PySem.W.codeIn K cd23 "_law_between" = true) (k23 : PySem.W.keepIn K (.ref g23) = true)
    {g24 : Addr} {od24 an24 : Option Addr} {sl24 : Array (Option Value)} {oc24 kV24 dc24 pm24 cd24 ct24 : Value}
    (a24 : PySem.W.nsIn K mainGlobals "_law_is_corner_right" = some (some (.ref g24))) (l24 : K.lookup g24 = some ⟨oc24, od24, .func (PySem.W.fnOf "_law_is_corner_right" "_law_is_corner_right" (defArgs s__law_is_corner_right) (defBody s__law_is_corner_right) (defScope s__law_is_corner_right) .none kV24 dc24 pm24 an24 cd24 ct24), sl24⟩) (c24 : PySem.W.codeIn K cd24 "_law_is_corner_right" = true) (k24 : PySem.W.keepIn K (.ref g24) = true)
    {g25 : Addr} {od25 an25 : Option Addr} {sl25 : Array (Option Value)} {oc25 kV25 dc25 pm25 cd25 ct25 : Value}
    (a25 : PySem.W.nsIn K mainGlobals "_law_any" = some (some (.ref g25))) (l25 : K.lookup g25 = some ⟨oc25, od25, .func (PySem.W.fnOf "_law_any" "_law_any" (defArgs s__law_any) (defBody s__law_any) (defScope s__law_any) .none kV25 dc25 pm25 an25 cd25 ct25), sl25⟩) (c25 : PySem.W.codeIn K cd25 "_law_any" = true) (k25 : PySem.W.keepIn K (.ref g25) = true)
    {g26 : Addr} {od26 an26 : Option Addr} {sl26 : Array (Option Value)} {oc26 kV26 dc26 pm26 cd26 ct26 : Value}
    (a26 : PySem.W.nsIn K mainGlobals "_law_told" = some (some (.ref g26))) (l26 : K.lookup g26 = some ⟨oc26, od26, .func (PySem.W.fnOf "_law_told" "_law_told" (defArgs s__law_told) (defBody s__law_told) (defScope s__law_told) .none kV26 dc26 pm26 an26 cd26 ct26), sl26⟩) (c26 : PySem.W.codeIn K cd26 "_law_told" = true) (k26 : PySem.W.keepIn K (.ref g26) = true)
    {g27 : Addr} {od27 an27 : Option Addr} {sl27 : Array (Option Value)} {oc27 kV27 dc27 pm27 cd27 ct27 : Value}
    (a27 : PySem.W.nsIn K mainGlobals "_law_deep" = some (some (.ref g27))) (l27 : K.lookup g27 = some ⟨oc27, od27, .func (PySem.W.fnOf "_law_deep" "_law_deep" (defArgs s__law_deep) (defBody s__law_deep) (defScope s__law_deep) .none kV27 dc27 pm27 an27 cd27 ct27), sl27⟩) (c27 : PySem.W.codeIn K cd27 "_law_deep" = true) (k27 : PySem.W.keepIn K (.ref g27) = true)
    {g28 : Addr} {od28 an28 : Option Addr} {sl28 : Array (Option Value)} {oc28 kV28 dc28 pm28 cd28 ct28 : Value}
    (a28 : PySem.W.nsIn K mainGlobals "_law_are_refused" = some (some (.ref g28))) (l28 : K.lookup g28 = some ⟨oc28, od28, .func (PySem.W.fnOf "_law_are_refused" "_law_are_refused" (defArgs s__law_are_refused) (defBody s__law_are_refused) (defScope s__law_are_refused) .none kV28 dc28 pm28 an28 cd28 ct28), sl28⟩) (c28 : PySem.W.codeIn K cd28 "_law_are_refused" = true) (k28 : PySem.W.keepIn K (.ref g28) = true)
    {g29 : Addr} {od29 an29 : Option Addr} {sl29 : Array (Option Value)} {oc29 kV29 dc29 pm29 cd29 ct29 : Value}
    (a29 : PySem.W.nsIn K mainGlobals "_law_is_own_seen" = some (some (.ref g29))) (l29 : K.lookup g29 = some ⟨oc29, od29, .func (PySem.W.fnOf "_law_is_own_seen" "_law_is_own_seen" (defArgs s__law_is_own_seen) (defBody s__law_is_own_seen) (defScope s__law_is_own_seen) .none kV29 dc29 pm29 an29 cd29 ct29), sl29⟩) (c29 : PySem.W.codeIn K cd29 "_law_is_own_seen" = true) (k29 : PySem.W.keepIn K (.ref g29) = true)
    {g30 : Addr} {od30 an30 : Option Addr} {sl30 : Array (Option Value)} {oc30 kV30 dc30 pm30 cd30 ct30 : Value}
    (a30 : PySem.W.nsIn K mainGlobals "law" = some (some (.ref g30))) (l30 : K.lookup g30 = some ⟨oc30, od30, .func (PySem.W.fnOf "law" "law" (defArgs s_law) (defBody s_law) (defScope s_law) .none kV30 dc30 pm30 an30 cd30 ct30), sl30⟩) (c30 : PySem.W.codeIn K cd30 "law" = true) (k30 : PySem.W.keepIn K (.ref g30) = true)
    (z0 : PySem.W.nsIn K mainGlobals "ValueError" = some none)
    (z1 : PySem.W.nsIn K mainGlobals "abs" = some none)
    (z2 : PySem.W.nsIn K mainGlobals "all" = some none)
    (z3 : PySem.W.nsIn K mainGlobals "any" = some none)
    (z4 : PySem.W.nsIn K mainGlobals "bool" = some none)
    (z5 : PySem.W.nsIn K mainGlobals "int" = some none)
    (z6 : PySem.W.nsIn K mainGlobals "isinstance" = some none)
    (z7 : PySem.W.nsIn K mainGlobals "len" = some none)
    (z8 : PySem.W.nsIn K mainGlobals "min" = some none)
    (z9 : PySem.W.nsIn K mainGlobals "range" = some none)
    (z10 : PySem.W.nsIn K mainGlobals "repr" = some none)
    (z11 : PySem.W.nsIn K mainGlobals "tuple" = some none)
    {t0 : Tok} (y0 : PySem.W.nsIn K mainGlobals "MOST_DOTS" = some (some (.int 40 t0)))
    {t1 : Tok} (y1 : PySem.W.nsIn K mainGlobals "MOST_PLACE" = some (some (.int 10000 t1)))
    {t2 : Tok} (y2 : PySem.W.nsIn K mainGlobals "MOST_WITHIN" = some (some (.int 30 t2)))
    {C0 : Addr}
    (e0 : PySem.W.nsIn K mainGlobals "FanError" = some (some (.ref C0)))
    (et0 : PySem.W.typeIn K (.ref C0) = some (.type "type"))
    (eb0 : PySem.W.subIn K (.ref C0) (.type "BaseException") = some true)
    (ec0 : PySem.W.isClsIn K C0 = true)
    (es0 : PySem.W.subIn K (.ref C0) (.ref C0) = some true)
    {C1 : Addr}
    (e1 : PySem.W.nsIn K mainGlobals "NoCorner" = some (some (.ref C1)))
    (et1 : PySem.W.typeIn K (.ref C1) = some (.type "type"))
    (eb1 : PySem.W.subIn K (.ref C1) (.type "BaseException") = some true)
    (ec1 : PySem.W.isClsIn K C1 = true)
    (es1 : PySem.W.subIn K (.ref C1) (.ref C1) = some true)
    {C2 : Addr}
    (e2 : PySem.W.nsIn K mainGlobals "NoDot" = some (some (.ref C2)))
    (et2 : PySem.W.typeIn K (.ref C2) = some (.type "type"))
    (eb2 : PySem.W.subIn K (.ref C2) (.type "BaseException") = some true)
    (ec2 : PySem.W.isClsIn K C2 = true)
    (es2 : PySem.W.subIn K (.ref C2) (.ref C2) = some true)
    {C3 : Addr}
    (e3 : PySem.W.nsIn K mainGlobals "NoDots" = some (some (.ref C3)))
    (et3 : PySem.W.typeIn K (.ref C3) = some (.type "type"))
    (eb3 : PySem.W.subIn K (.ref C3) (.type "BaseException") = some true)
    (ec3 : PySem.W.isClsIn K C3 = true)
    (es3 : PySem.W.subIn K (.ref C3) (.ref C3) = some true)
    {C4 : Addr}
    (e4 : PySem.W.nsIn K mainGlobals "NoNumber" = some (some (.ref C4)))
    (et4 : PySem.W.typeIn K (.ref C4) = some (.type "type"))
    (eb4 : PySem.W.subIn K (.ref C4) (.type "BaseException") = some true)
    (ec4 : PySem.W.isClsIn K C4 = true)
    (es4 : PySem.W.subIn K (.ref C4) (.ref C4) = some true)
    {C5 : Addr}
    (e5 : PySem.W.nsIn K mainGlobals "NoRay" = some (some (.ref C5)))
    (et5 : PySem.W.typeIn K (.ref C5) = some (.type "type"))
    (eb5 : PySem.W.subIn K (.ref C5) (.type "BaseException") = some true)
    (ec5 : PySem.W.isClsIn K C5 = true)
    (es5 : PySem.W.subIn K (.ref C5) (.ref C5) = some true)
    (hn : PySem.W.specialIn K (.builtin "object.__class__") "__get__" = some (some (.builtin "getset_descriptor.__get__")))
    (ht : PySem.W.takesIn K (.builtin "object.__class__") = some true)
    (ek1 : PySem.W.keepIn K (.ref C1) = true)
    (eg1 : PySem.W.findIn K (.ref C1) "__getattribute__" = some (some (.builtin "BaseException.__getattribute__")))
    (eh1 : PySem.W.findIn K (.ref C1) "__getattr__" = some none)
    (ed1 : PySem.W.hasDictIn K C1 = true)
    (ea1 : PySem.W.findIn K (.ref C1) "__class__" = some (some (.builtin "object.__class__")))
    (eo1 : PySem.W.mroIn K C1 (.type "object") = some true)
    (p1_2 : PySem.W.subIn K (.ref C1) (.ref C2) = some false)
    (p1_3 : PySem.W.subIn K (.ref C1) (.ref C3) = some false)
    (p1_4 : PySem.W.subIn K (.ref C1) (.ref C4) = some false)
    (p1_5 : PySem.W.subIn K (.ref C1) (.ref C5) = some false)
    (p1_0 : PySem.W.subIn K (.ref C1) (.ref C0) = some true)
    (pb1_ValueError : PySem.W.subIn K (.ref C1) (.type "ValueError") = some true)
    (ex1 : PySem.W.excIn K C1 veAll "ValueError.__new__" = true)
    (ek2 : PySem.W.keepIn K (.ref C2) = true)
    (eg2 : PySem.W.findIn K (.ref C2) "__getattribute__" = some (some (.builtin "BaseException.__getattribute__")))
    (eh2 : PySem.W.findIn K (.ref C2) "__getattr__" = some none)
    (ed2 : PySem.W.hasDictIn K C2 = true)
    (ea2 : PySem.W.findIn K (.ref C2) "__class__" = some (some (.builtin "object.__class__")))
    (eo2 : PySem.W.mroIn K C2 (.type "object") = some true)
    (p2_1 : PySem.W.subIn K (.ref C2) (.ref C1) = some false)
    (p2_3 : PySem.W.subIn K (.ref C2) (.ref C3) = some false)
    (p2_4 : PySem.W.subIn K (.ref C2) (.ref C4) = some false)
    (p2_5 : PySem.W.subIn K (.ref C2) (.ref C5) = some false)
    (p2_0 : PySem.W.subIn K (.ref C2) (.ref C0) = some true)
    (pb2_ValueError : PySem.W.subIn K (.ref C2) (.type "ValueError") = some true)
    (ex2 : PySem.W.excIn K C2 veAll "ValueError.__new__" = true)
    (ek3 : PySem.W.keepIn K (.ref C3) = true)
    (eg3 : PySem.W.findIn K (.ref C3) "__getattribute__" = some (some (.builtin "BaseException.__getattribute__")))
    (eh3 : PySem.W.findIn K (.ref C3) "__getattr__" = some none)
    (ed3 : PySem.W.hasDictIn K C3 = true)
    (ea3 : PySem.W.findIn K (.ref C3) "__class__" = some (some (.builtin "object.__class__")))
    (eo3 : PySem.W.mroIn K C3 (.type "object") = some true)
    (p3_1 : PySem.W.subIn K (.ref C3) (.ref C1) = some false)
    (p3_2 : PySem.W.subIn K (.ref C3) (.ref C2) = some false)
    (p3_4 : PySem.W.subIn K (.ref C3) (.ref C4) = some false)
    (p3_5 : PySem.W.subIn K (.ref C3) (.ref C5) = some false)
    (p3_0 : PySem.W.subIn K (.ref C3) (.ref C0) = some true)
    (pb3_ValueError : PySem.W.subIn K (.ref C3) (.type "ValueError") = some true)
    (ex3 : PySem.W.excIn K C3 veAll "ValueError.__new__" = true)
    (ek4 : PySem.W.keepIn K (.ref C4) = true)
    (eg4 : PySem.W.findIn K (.ref C4) "__getattribute__" = some (some (.builtin "BaseException.__getattribute__")))
    (eh4 : PySem.W.findIn K (.ref C4) "__getattr__" = some none)
    (ed4 : PySem.W.hasDictIn K C4 = true)
    (ea4 : PySem.W.findIn K (.ref C4) "__class__" = some (some (.builtin "object.__class__")))
    (eo4 : PySem.W.mroIn K C4 (.type "object") = some true)
    (p4_1 : PySem.W.subIn K (.ref C4) (.ref C1) = some false)
    (p4_2 : PySem.W.subIn K (.ref C4) (.ref C2) = some false)
    (p4_3 : PySem.W.subIn K (.ref C4) (.ref C3) = some false)
    (p4_5 : PySem.W.subIn K (.ref C4) (.ref C5) = some false)
    (p4_0 : PySem.W.subIn K (.ref C4) (.ref C0) = some true)
    (pb4_ValueError : PySem.W.subIn K (.ref C4) (.type "ValueError") = some true)
    (ex4 : PySem.W.excIn K C4 veAll "ValueError.__new__" = true)
    (ek5 : PySem.W.keepIn K (.ref C5) = true)
    (eg5 : PySem.W.findIn K (.ref C5) "__getattribute__" = some (some (.builtin "BaseException.__getattribute__")))
    (eh5 : PySem.W.findIn K (.ref C5) "__getattr__" = some none)
    (ed5 : PySem.W.hasDictIn K C5 = true)
    (ea5 : PySem.W.findIn K (.ref C5) "__class__" = some (some (.builtin "object.__class__")))
    (eo5 : PySem.W.mroIn K C5 (.type "object") = some true)
    (p5_1 : PySem.W.subIn K (.ref C5) (.ref C1) = some false)
    (p5_2 : PySem.W.subIn K (.ref C5) (.ref C2) = some false)
    (p5_3 : PySem.W.subIn K (.ref C5) (.ref C3) = some false)
    (p5_4 : PySem.W.subIn K (.ref C5) (.ref C4) = some false)
    (p5_0 : PySem.W.subIn K (.ref C5) (.ref C0) = some true)
    (pb5_ValueError : PySem.W.subIn K (.ref C5) (.type "ValueError") = some true)
    (ex5 : PySem.W.excIn K C5 veAll "ValueError.__new__" = true)
    : Tb K mg := ⟨⟨_, _, fun_mk (st := s__law_hand) l0 c0 k0, PySem.W.mg_of X G a0⟩, ⟨_, _, fun_mk (st := s_is_integer) l1 c1 k1, PySem.W.mg_of X G a1⟩, ⟨_, _, fun_mk (st := s_is_within) l2 c2 k2, PySem.W.mg_of X G a2⟩, ⟨_, _, fun_mk (st := s_is_dot) l3 c3 k3, PySem.W.mg_of X G a3⟩, ⟨_, _, fun_mk (st := s_common_divisor) l4 c4 k4, PySem.W.mg_of X G a4⟩, ⟨_, _, fun_mk (st := s_is_ray) l5 c5 k5, PySem.W.mg_of X G a5⟩, ⟨_, _, fun_mk (st := s_check_ray) l6 c6 k6, PySem.W.mg_of X G a6⟩, ⟨_, _, fun_mk (st := s_raw_turn) l7 c7 k7, PySem.W.mg_of X G a7⟩, ⟨_, _, fun_mk (st := s_check_corner) l8 c8 k8, PySem.W.mg_of X G a8⟩, ⟨_, _, fun_mk (st := s_half_of) l9 c9 k9, PySem.W.mg_of X G a9⟩, ⟨_, _, fun_mk (st := s_comes_ahead) l10 c10 k10, PySem.W.mg_of X G a10⟩, ⟨_, _, fun_mk (st := s_by_angle) l11 c11 k11, PySem.W.mg_of X G a11⟩, ⟨_, _, fun_mk (st := s_rays_within) l12 c12 k12, PySem.W.mg_of X G a12⟩, ⟨_, _, fun_mk (st := s_sized_rays) l13 c13 k13, PySem.W.mg_of X G a13⟩, ⟨_, _, fun_mk (st := s_simplest) l14 c14 k14, PySem.W.mg_of X G a14⟩, ⟨_, _, fun_mk (st := s_are_dots) l15 c15 k15, PySem.W.mg_of X G a15⟩, ⟨_, _, fun_mk (st := s_is_on_way) l16 c16 k16, PySem.W.mg_of X G a16⟩, ⟨_, _, fun_mk (st := s_is_seen) l17 c17 k17, PySem.W.mg_of X G a17⟩, ⟨_, _, fun_mk (st := s__law_divisor) l18 c18 k18, PySem.W.mg_of X G a18⟩, ⟨_, _, fun_mk (st := s__law_draw) l19 c19 k19, PySem.W.mg_of X G a19⟩, ⟨_, _, fun_mk (st := s__law_ray) l20 c20 k20, PySem.W.mg_of X G a20⟩, ⟨_, _, fun_mk (st := s__law_turn) l21 c21 k21, PySem.W.mg_of X G a21⟩, ⟨_, _, fun_mk (st := s__law_sorted_round) l22 c22 k22, PySem.W.mg_of X G a22⟩, ⟨_, _, fun_mk (st := s__law_between) l23 c23 k23, PySem.W.mg_of X G a23⟩, ⟨_, _, fun_mk (st := s__law_is_corner_right) l24 c24 k24, PySem.W.mg_of X G a24⟩, ⟨_, _, fun_mk (st := s__law_any) l25 c25 k25, PySem.W.mg_of X G a25⟩, ⟨_, _, fun_mk (st := s__law_told) l26 c26 k26, PySem.W.mg_of X G a26⟩, ⟨_, _, fun_mk (st := s__law_deep) l27 c27 k27, PySem.W.mg_of X G a27⟩, ⟨_, _, fun_mk (st := s__law_are_refused) l28 c28 k28, PySem.W.mg_of X G a28⟩, ⟨_, _, fun_mk (st := s__law_is_own_seen) l29 c29 k29, PySem.W.mg_of X G a29⟩, ⟨_, _, fun_mk (st := s_law) l30 c30 k30, PySem.W.mg_of X G a30⟩, fun f e => by rw [PySem.W.mg_of X G a28] at e; cases e; exact a28, PySem.W.mg_none_of X G z0, PySem.W.mg_none_of X G z1, PySem.W.mg_none_of X G z2, PySem.W.mg_none_of X G z3, PySem.W.mg_none_of X G z4, PySem.W.mg_none_of X G z5, PySem.W.mg_none_of X G z6, PySem.W.mg_none_of X G z7, PySem.W.mg_none_of X G z8, PySem.W.mg_none_of X G z9, PySem.W.mg_none_of X G z10, PySem.W.mg_none_of X G z11, ⟨_, PySem.W.mg_of X G y0⟩, ⟨_, PySem.W.mg_of X G y1⟩, ⟨_, PySem.W.mg_of X G y2⟩, ⟨_, PySem.W.mg_of X G e0⟩, ⟨_, PySem.W.mg_of X G e1⟩, ⟨_, PySem.W.mg_of X G e2⟩, ⟨_, PySem.W.mg_of X G e3⟩, ⟨_, PySem.W.mg_of X G e4⟩, ⟨_, PySem.W.mg_of X G e5⟩, ⟨_, PySem.W.mg_of X G e1, ek1, eb1, et1, ex1⟩, ⟨_, PySem.W.mg_of X G e2, ek2, eb2, et2, ex2⟩, ⟨_, PySem.W.mg_of X G e3, ek3, eb3, et3, ex3⟩, ⟨_, PySem.W.mg_of X G e4, ek4, eb4, et4, ex4⟩, ⟨_, PySem.W.mg_of X G e5, ek5, eb5, et5, ex5⟩, isa_of (List.forall_mem_cons.mpr ⟨List.forall_mem_cons.mpr ⟨⟨_, _, PySem.W.mg_of X G e1, PySem.W.mg_of X G e1, ⟨eg1, eh1, eb1, ed1, ea1, hn, ht, eo1⟩, (kit_own ec1 et1 es1 es1).1⟩, List.forall_mem_cons.mpr ⟨⟨_, _, PySem.W.mg_of X G e1, PySem.W.mg_of X G e2, ⟨eg1, eh1, eb1, ed1, ea1, hn, ht, eo1⟩, (kit_own ec2 et2 es2 p1_2).1⟩, List.forall_mem_cons.mpr ⟨⟨_, _, PySem.W.mg_of X G e1, PySem.W.mg_of X G e3, ⟨eg1, eh1, eb1, ed1, ea1, hn, ht, eo1⟩, (kit_own ec3 et3 es3 p1_3).1⟩, List.forall_mem_cons.mpr ⟨⟨_, _, PySem.W.mg_of X G e1, PySem.W.mg_of X G e4, ⟨eg1, eh1, eb1, ed1, ea1, hn, ht, eo1⟩, (kit_own ec4 et4 es4 p1_4).1⟩, List.forall_mem_cons.mpr ⟨⟨_, _, PySem.W.mg_of X G e1, PySem.W.mg_of X G e5, ⟨eg1, eh1, eb1, ed1, ea1, hn, ht, eo1⟩, (kit_own ec5 et5 es5 p1_5).1⟩, fun _ h => nomatch h⟩⟩⟩⟩⟩, List.forall_mem_cons.mpr ⟨List.forall_mem_cons.mpr ⟨⟨_, _, PySem.W.mg_of X G e2, PySem.W.mg_of X G e1, ⟨eg2, eh2, eb2, ed2, ea2, hn, ht, eo2⟩, (kit_own ec1 et1 es1 p2_1).1⟩, List.forall_mem_cons.mpr ⟨⟨_, _, PySem.W.mg_of X G e2, PySem.W.mg_of X G e2, ⟨eg2, eh2, eb2, ed2, ea2, hn, ht, eo2⟩, (kit_own ec2 et2 es2 es2).1⟩, List.forall_mem_cons.mpr ⟨⟨_, _, PySem.W.mg_of X G e2, PySem.W.mg_of X G e3, ⟨eg2, eh2, eb2, ed2, ea2, hn, ht, eo2⟩, (kit_own ec3 et3 es3 p2_3).1⟩, List.forall_mem_cons.mpr ⟨⟨_, _, PySem.W.mg_of X G e2, PySem.W.mg_of X G e4, ⟨eg2, eh2, eb2, ed2, ea2, hn, ht, eo2⟩, (kit_own ec4 et4 es4 p2_4).1⟩, List.forall_mem_cons.mpr ⟨⟨_, _, PySem.W.mg_of X G e2, PySem.W.mg_of X G e5, ⟨eg2, eh2, eb2, ed2, ea2, hn, ht, eo2⟩, (kit_own ec5 et5 es5 p2_5).1⟩, fun _ h => nomatch h⟩⟩⟩⟩⟩, List.forall_mem_cons.mpr ⟨List.forall_mem_cons.mpr ⟨⟨_, _, PySem.W.mg_of X G e3, PySem.W.mg_of X G e1, ⟨eg3, eh3, eb3, ed3, ea3, hn, ht, eo3⟩, (kit_own ec1 et1 es1 p3_1).1⟩, List.forall_mem_cons.mpr ⟨⟨_, _, PySem.W.mg_of X G e3, PySem.W.mg_of X G e2, ⟨eg3, eh3, eb3, ed3, ea3, hn, ht, eo3⟩, (kit_own ec2 et2 es2 p3_2).1⟩, List.forall_mem_cons.mpr ⟨⟨_, _, PySem.W.mg_of X G e3, PySem.W.mg_of X G e3, ⟨eg3, eh3, eb3, ed3, ea3, hn, ht, eo3⟩, (kit_own ec3 et3 es3 es3).1⟩, List.forall_mem_cons.mpr ⟨⟨_, _, PySem.W.mg_of X G e3, PySem.W.mg_of X G e4, ⟨eg3, eh3, eb3, ed3, ea3, hn, ht, eo3⟩, (kit_own ec4 et4 es4 p3_4).1⟩, List.forall_mem_cons.mpr ⟨⟨_, _, PySem.W.mg_of X G e3, PySem.W.mg_of X G e5, ⟨eg3, eh3, eb3, ed3, ea3, hn, ht, eo3⟩, (kit_own ec5 et5 es5 p3_5).1⟩, fun _ h => nomatch h⟩⟩⟩⟩⟩, List.forall_mem_cons.mpr ⟨List.forall_mem_cons.mpr ⟨⟨_, _, PySem.W.mg_of X G e4, PySem.W.mg_of X G e1, ⟨eg4, eh4, eb4, ed4, ea4, hn, ht, eo4⟩, (kit_own ec1 et1 es1 p4_1).1⟩, List.forall_mem_cons.mpr ⟨⟨_, _, PySem.W.mg_of X G e4, PySem.W.mg_of X G e2, ⟨eg4, eh4, eb4, ed4, ea4, hn, ht, eo4⟩, (kit_own ec2 et2 es2 p4_2).1⟩, List.forall_mem_cons.mpr ⟨⟨_, _, PySem.W.mg_of X G e4, PySem.W.mg_of X G e3, ⟨eg4, eh4, eb4, ed4, ea4, hn, ht, eo4⟩, (kit_own ec3 et3 es3 p4_3).1⟩, List.forall_mem_cons.mpr ⟨⟨_, _, PySem.W.mg_of X G e4, PySem.W.mg_of X G e4, ⟨eg4, eh4, eb4, ed4, ea4, hn, ht, eo4⟩, (kit_own ec4 et4 es4 es4).1⟩, List.forall_mem_cons.mpr ⟨⟨_, _, PySem.W.mg_of X G e4, PySem.W.mg_of X G e5, ⟨eg4, eh4, eb4, ed4, ea4, hn, ht, eo4⟩, (kit_own ec5 et5 es5 p4_5).1⟩, fun _ h => nomatch h⟩⟩⟩⟩⟩, List.forall_mem_cons.mpr ⟨List.forall_mem_cons.mpr ⟨⟨_, _, PySem.W.mg_of X G e5, PySem.W.mg_of X G e1, ⟨eg5, eh5, eb5, ed5, ea5, hn, ht, eo5⟩, (kit_own ec1 et1 es1 p5_1).1⟩, List.forall_mem_cons.mpr ⟨⟨_, _, PySem.W.mg_of X G e5, PySem.W.mg_of X G e2, ⟨eg5, eh5, eb5, ed5, ea5, hn, ht, eo5⟩, (kit_own ec2 et2 es2 p5_2).1⟩, List.forall_mem_cons.mpr ⟨⟨_, _, PySem.W.mg_of X G e5, PySem.W.mg_of X G e3, ⟨eg5, eh5, eb5, ed5, ea5, hn, ht, eo5⟩, (kit_own ec3 et3 es3 p5_3).1⟩, List.forall_mem_cons.mpr ⟨⟨_, _, PySem.W.mg_of X G e5, PySem.W.mg_of X G e4, ⟨eg5, eh5, eb5, ed5, ea5, hn, ht, eo5⟩, (kit_own ec4 et4 es4 p5_4).1⟩, List.forall_mem_cons.mpr ⟨⟨_, _, PySem.W.mg_of X G e5, PySem.W.mg_of X G e5, ⟨eg5, eh5, eb5, ed5, ea5, hn, ht, eo5⟩, (kit_own ec5 et5 es5 es5).1⟩, fun _ h => nomatch h⟩⟩⟩⟩⟩, fun _ h => nomatch h⟩⟩⟩⟩⟩), cat_of (List.forall_mem_cons.mpr ⟨List.forall_mem_cons.mpr ⟨⟨_, _, PySem.W.mg_of X G e1, PySem.W.mg_of X G e0, exm_own eb0 ec0 et0 es0 p1_0⟩, List.forall_mem_cons.mpr ⟨⟨_, _, PySem.W.mg_of X G e2, PySem.W.mg_of X G e0, exm_own eb0 ec0 et0 es0 p2_0⟩, List.forall_mem_cons.mpr ⟨⟨_, _, PySem.W.mg_of X G e3, PySem.W.mg_of X G e0, exm_own eb0 ec0 et0 es0 p3_0⟩, List.forall_mem_cons.mpr ⟨⟨_, _, PySem.W.mg_of X G e4, PySem.W.mg_of X G e0, exm_own eb0 ec0 et0 es0 p4_0⟩, List.forall_mem_cons.mpr ⟨⟨_, _, PySem.W.mg_of X G e5, PySem.W.mg_of X G e0, exm_own eb0 ec0 et0 es0 p5_0⟩, fun _ h => nomatch h⟩⟩⟩⟩⟩, fun _ h => nomatch h⟩), isb_of (List.forall_mem_cons.mpr ⟨⟨_, PySem.W.mg_of X G e1, ⟨eg1, eh1, eb1, ed1, ea1, hn, ht, eo1⟩, kit_blt (by decide +kernel) pb1_ValueError⟩, List.forall_mem_cons.mpr ⟨⟨_, PySem.W.mg_of X G e2, ⟨eg2, eh2, eb2, ed2, ea2, hn, ht, eo2⟩, kit_blt (by decide +kernel) pb2_ValueError⟩, List.forall_mem_cons.mpr ⟨⟨_, PySem.W.mg_of X G e3, ⟨eg3, eh3, eb3, ed3, ea3, hn, ht, eo3⟩, kit_blt (by decide +kernel) pb3_ValueError⟩, List.forall_mem_cons.mpr ⟨⟨_, PySem.W.mg_of X G e4, ⟨eg4, eh4, eb4, ed4, ea4, hn, ht, eo4⟩, kit_blt (by decide +kernel) pb4_ValueError⟩, List.forall_mem_cons.mpr ⟨⟨_, PySem.W.mg_of X G e5, ⟨eg5, eh5, eb5, ed5, ea5, hn, ht, eo5⟩, kit_blt (by decide +kernel) pb5_ValueError⟩, fun _ h => nomatch h⟩⟩⟩⟩⟩)⟩
theorem tabs_mk {q : Program} {K : PySem.W.Frag} {c0 p0 : Addr} {c1 p1 : Addr}
    {g0 : Addr} {oc0 ob0 : Value} {od0 oe0 : Option Addr} {fd0 : FuncData} {sl0 sm0 : Array (Option Value)} {vs0 : Array Value}
    (qa0 : PySem.W.nsIn K mainGlobals "_law_are_refused" = some (some (.ref g0))) (ql0 : K.lookup g0 = some ⟨oc0, od0, .func fd0, sl0⟩) (qh0 : fd0.code = .ref c0) (qc0 : K.lookup c0 = some ⟨ob0, oe0, .fields vs0, sm0⟩) (qv0 : vs0[11]? = some (.ref p0)) (qn0 : K.lookup p0 = none)
    (qr0 : ((recsOf q).any fun d => d.name == ("_law_are_refused" : Str)) = true)
    {g1 : Addr} {oc1 ob1 : Value} {od1 oe1 : Option Addr} {fd1 : FuncData} {sl1 sm1 : Array (Option Value)} {vs1 : Array Value}
    (qa1 : PySem.W.nsIn K mainGlobals "law" = some (some (.ref g1))) (ql1 : K.lookup g1 = some ⟨oc1, od1, .func fd1, sl1⟩) (qh1 : fd1.code = .ref c1) (qc1 : K.lookup c1 = some ⟨ob1, oe1, .fields vs1, sm1⟩) (qv1 : vs1[11]? = some (.ref p1)) (qn1 : K.lookup p1 = none)
    (qr1 : ((recsOf q).any fun d => d.name == ("law" : Str)) = true)
    (qd0_1 : p0 ≠ p1)
    (qz0 : PySem.W.nsIn K mainGlobals "_law_is_text_right" = some none)
    (qz1 : PySem.W.nsIn K mainGlobals "_law_is_row_right" = some none)
    (qz2 : PySem.W.nsIn K mainGlobals "_law_all_told" = some none)
    (qz3 : PySem.W.nsIn K mainGlobals "_law_is_right" = some none)
    (qz4 : PySem.W.nsIn K mainGlobals "_law_is_chain_right" = some none)
    : TabsAre q K ([("_law_are_refused", c0, p0), ("law", c1, p1)] : List (Str × Addr × Addr)) := by
  have t0 : PySem.W.tabIn K "_law_are_refused" = some (c0, p0) := tabIn_of qa0 ql0 qh0 qc0 qv0
  have t1 : PySem.W.tabIn K "law" = some (c1, p1) := tabIn_of qa1 ql1 qh1 qc1 qv1
  have u0 : PySem.W.tabIn K "_law_is_text_right" = none := tabIn_none qz0
  have u1 : PySem.W.tabIn K "_law_is_row_right" = none := tabIn_none qz1
  have u2 : PySem.W.tabIn K "_law_all_told" = none := tabIn_none qz2
  have u3 : PySem.W.tabIn K "_law_is_right" = none := tabIn_none qz3
  have u4 : PySem.W.tabIn K "_law_is_chain_right" = none := tabIn_none qz4
  refine ⟨List.forall_mem_cons.mpr ⟨⟨t0, qn0⟩, List.forall_mem_cons.mpr ⟨⟨t1, qn1⟩, fun _ h => nomatch h⟩⟩, List.forall_mem_cons.mpr ⟨qr0, List.forall_mem_cons.mpr ⟨qr1, fun _ h => nomatch h⟩⟩, fun e he e2 he2 hz => ?_, lawTabs_of ?_⟩
  · simp only [List.mem_cons, List.not_mem_nil, or_false] at he he2
    rcases he with rfl | rfl <;> rcases he2 with rfl | rfl <;> first | rfl | exact (qd0_1 hz).elim | exact (qd0_1 hz.symm).elim
  · unfold lamNames
    simp only [List.filterMap_cons, List.filterMap_nil, t0, t1, u0, u1, u2, u3, u4, Option.map_some, Option.map_none]
theorem fin_mk {q P : Program} {w : World} {K : PySem.W.Frag} {mg : Str → Option Value} {fa : Addr} {c0 p0 : Addr} {c1 p1 : Addr} (TA : TabsAre q K ([("_law_are_refused", c0, p0), ("law", c1, p1)] : List (Str × Addr × Addr))) (T : Tb K mg) (hfa : mg "law" = some (.ref fa)) : ∃ (fd : FuncData) (ls : List (Str × Addr × Addr)), TabsAre q K ls ∧ (∀ (s : Shared) (u : Value), BindsTo s fd ⟨[u], []⟩ [("script", u)]) ∧
    ∀ base : Heap, K.In base → base.Ns mainGlobals mg → (∀ e ∈ ls, LamAt K mg base e.1) → FnG P w K mg base 11 fa fd ["script"] (spD K mg f_law 1) := by
  obtain ⟨f, fd, F, hm⟩ := id T.u_law
  rw [hfa] at hm
  cases hm
  refine ⟨fd, _, TA, fun s u => ?_, fun base _ _ hL => ?_⟩
  · obtain ⟨oc, od, kV, doc, pm, an, cdv, ct, osl, rfl, lk, hcd⟩ := F.ex
    exact .of_eq rfl
  · exact fn_law T ⟨hL ("_law_are_refused", c0, p0) (by simp)⟩ F
end K87
/-! ### the tree of middles -/
namespace Sb
abbrev P2 := Int × Int
def ad (a b : P2) : P2 := (a.1 + b.1, a.2 + b.2)
def cr (u v : P2) : Int := u.1 * v.2 - u.2 * v.1
/-- the middle of a way (true: l), seen from the corner's own rays -/
def md : List Bool → P2
  | [] => (1, 1)
  | true :: q => ((md q).1, (md q).1 + (md q).2)
  | false :: q => ((md q).1 + (md q).2, (md q).2)
/-- the corner of a way -/
def cor : P2 → P2 → List Bool → P2 × P2
  | a, b, [] => (a, b)
  | a, b, true :: q => cor (ad a b) b q
  | a, b, false :: q => cor a (ad a b) q
def mix (p a b : P2) : P2 := (p.1 * a.1 + p.2 * b.1, p.1 * a.2 + p.2 * b.2)
theorem cor_sum : ∀ (q : List Bool) (a b : P2), ad (cor a b q).1 (cor a b q).2 = mix (md q) a b
  | [], a, b => by simp [cor, md, mix, ad]
  | true :: q, a, b => by
    rw [cor, cor_sum q]
    simp only [md, mix, ad]
    ext <;> simp <;> grind
  | false :: q, a, b => by
    rw [cor, cor_sum q]
    simp only [md, mix, ad]
    ext <;> simp <;> grind
theorem md_pos : ∀ q : List Bool, 1 ≤ (md q).1 ∧ 1 ≤ (md q).2
  | [] => by simp [md]
  | true :: q => by have := md_pos q; simp only [md]; omega
  | false :: q => by have := md_pos q; simp only [md]; omega
theorem md_le : ∀ q : List Bool, (md q).1 + (md q).2 ≤ 2 ^ (q.length + 1)
  | [] => by simp [md]
  | true :: q => by
    have := md_le q
    have p := md_pos q
    simp only [md, List.length_cons]
    rw [Int.pow_succ]
    omega
  | false :: q => by
    have := md_le q
    have p := md_pos q
    simp only [md, List.length_cons]
    rw [Int.pow_succ]
    omega
theorem md_one {q : List Bool} : (md q).1 = (md q).2 ↔ q = [] := by
  cases q with
  | nil => simp [md]
  | cons s q =>
    have p := md_pos q
    cases s <;> simp only [md, reduceCtorEq, iff_false] <;> omega
theorem md_mix (q : List Bool) : mix (md q) (1, 0) (0, 1) = md q := by
  simp [mix]
theorem cor_std (q : List Bool) : ad (cor (1, 0) (0, 1) q).1 (cor (1, 0) (0, 1) q).2 = md q := by rw [cor_sum, md_mix]
theorem cor_det : ∀ (q : List Bool) (a b : P2), cr (cor a b q).1 (cor a b q).2 = cr a b
  | [], a, b => rfl
  | true :: q, a, b => by
    rw [cor, cor_det q]
    simp only [cr, ad]
    grind
  | false :: q, a, b => by
    rw [cor, cor_det q]
    simp only [cr, ad]
    grind
def Nn (a : P2) : Prop := 0 ≤ a.1 ∧ 0 ≤ a.2
theorem cor_nn : ∀ (q : List Bool) (a b : P2), Nn a → Nn b → Nn (cor a b q).1 ∧ Nn (cor a b q).2
  | [], a, b, h, k => ⟨h, k⟩
  | true :: q, a, b, h, k => by
    rw [cor]
    refine cor_nn q _ _ ?_ k
    simp only [Nn, ad] at *
    omega
  | false :: q, a, b, h, k => by
    rw [cor]
    refine cor_nn q _ _ h ?_
    simp only [Nn, ad] at *
    omega
/-- the turn of the middle so far to the ray that is sought -/
theorem turn_l (q : List Bool) {a b : P2} (h : cr a b = 1) : 0 < cr (ad a b) (mix (md (true :: q)) a b) := by
  have p := md_pos q
  have e : cr (ad a b) (mix (md (true :: q)) a b) = (md q).2 * cr a b := by
    simp only [cr, ad, mix, md]
    grind
  rw [e, h]
  omega
theorem turn_r (q : List Bool) {a b : P2} (h : cr a b = 1) : cr (ad a b) (mix (md (false :: q)) a b) < 0 := by
  have p := md_pos q
  have e : cr (ad a b) (mix (md (false :: q)) a b) = - (md q).1 * cr a b := by
    simp only [cr, ad, mix, md]
    grind
  rw [e, h]
  omega
theorem mix_step_l (q : List Bool) (a b : P2) : mix (md (true :: q)) a b = mix (md q) (ad a b) b := by
  simp only [md, mix, ad]
  ext <;> simp <;> grind
theorem mix_step_r (q : List Bool) (a b : P2) : mix (md (false :: q)) a b = mix (md q) a (ad a b) := by
  simp only [md, mix, ad]
  ext <;> simp <;> grind
/-- only the empty way tells the sum -/
theorem mix_sum {q : List Bool} {a b : P2} (h : cr a b = 1) : ad a b = mix (md q) a b ↔ q = [] := by
  constructor
  · intro e
    cases q with
    | nil => rfl
    | cons s q =>
      exfalso
      have z : cr (ad a b) (ad a b) = 0 := by simp only [cr]; grind
      cases s with
      | true => have := turn_l q h; rw [← e, z] at this; omega
      | false => have := turn_r q h; rw [← e, z] at this; omega
  · rintro rfl
    simp [md, mix, ad]
/-! the way of a ray -/
def way : Nat → Int → Int → List Bool
  | 0, _, _ => []
  | n + 1, x, y => if x = y then [] else if x > y then false :: way n (x - y) y else true :: way n x (y - x)
theorem gcd_sl (x y : Int) : Int.gcd (x - y) y = Int.gcd x y := by
  have := Int.gcd_sub_self_left y x
  first | exact this | (rw [Int.gcd_comm] at this ⊢; exact this) | simp [this]
theorem gcd_sr (x y : Int) : Int.gcd x (y - x) = Int.gcd x y := by
  have := Int.gcd_self_sub_right x y
  first | exact this | (rw [Int.gcd_comm] at this ⊢; exact this) | simp [this]
theorem way_spec : ∀ (n : Nat) (x y : Int), 1 ≤ x → 1 ≤ y → Int.gcd x y = 1 → x + y ≤ n + 1 → md (way n x y) = (x, y) ∧ ((way n x y).length : Int) + 2 ≤ x + y
  | 0, x, y, hx, hy, _, h => by omega
  | n + 1, x, y, hx, hy, g, h => by
    unfold way
    by_cases e : x = y
    · subst e
      rw [if_pos rfl]
      have : x = 1 := by
        rw [Int.gcd_self] at g
        omega
      subst this
      exact ⟨rfl, by decide⟩
    · rw [if_neg e]
      by_cases c : x > y
      · rw [if_pos c]
        have g2 : Int.gcd (x - y) y = 1 := by
          rw [← g]
          have := Int.gcd_sub_self_left x y
          first | exact this | (rw [Int.gcd_comm] at this ⊢; exact this) | simp [this]
        obtain ⟨h1, h2⟩ := way_spec n (x - y) y (by omega) hy g2 (by omega)
        refine ⟨by simp only [md, h1]; ext <;> simp <;> omega, by rw [List.length_cons]; omega⟩
      · rw [if_neg c]
        have g2 : Int.gcd x (y - x) = 1 := by
          rw [← g]
          have := Int.gcd_self_sub_right x y
          first | exact this | (rw [Int.gcd_comm] at this ⊢; exact this) | simp [this]
        obtain ⟨h1, h2⟩ := way_spec n x (y - x) hx (by omega) g2 (by omega)
        refine ⟨by simp only [md, h1]; ext <;> simp <;> omega, by rw [List.length_cons]; omega⟩
theorem way_stop {n : Nat} {x y : Int} (h : x = y) : way (n + 1) x y = [] := by
  unfold way
  rw [if_pos h]
theorem way_r {n : Nat} {x y : Int} (h : ¬ x = y) (k : x > y) : way (n + 1) x y = false :: way n (x - y) y := by
  show (if x = y then [] else if x > y then false :: way n (x - y) y else true :: way n x (y - x)) = _
  rw [if_neg h, if_pos k]
theorem way_l {n : Nat} {x y : Int} (h : ¬ x = y) (k : ¬ x > y) : way (n + 1) x y = true :: way n x (y - x) := by
  show (if x = y then [] else if x > y then false :: way n (x - y) y else true :: way n x (y - x)) = _
  rw [if_neg h, if_neg k]
theorem gcd_of_cr {u v : P2} (h : cr u v = 1) : Int.gcd u.1 u.2 = 1 := by
  have d1 : ((Int.gcd u.1 u.2 : Nat) : Int) ∣ cr u v := by
    unfold cr
    exact Int.dvd_sub (Int.dvd_mul_of_dvd_left (Int.gcd_dvd_left _ _)) (Int.dvd_mul_of_dvd_left (Int.gcd_dvd_right _ _))
  rw [h] at d1
  have := Int.natAbs_dvd_natAbs.mpr d1
  simpa using this
theorem md_gcd (q : List Bool) : Int.gcd (md q).1 (md q).2 = 1 := by
  have d := cor_det q (1, 0) (0, 1)
  have s := cor_std q
  refine gcd_of_cr (u := md q) (v := (cor (1, 0) (0, 1) q).2) ?_
  rw [← s]
  have e : cr (ad (cor (1, 0) (0, 1) q).1 (cor (1, 0) (0, 1) q).2) (cor (1, 0) (0, 1) q).2 = cr (cor (1, 0) (0, 1) q).1 (cor (1, 0) (0, 1) q).2 := by
    simp only [cr, ad]
    grind
  rw [e, d]
  rfl
theorem cor_gcd1 (q : List Bool) : Int.gcd (cor (1, 0) (0, 1) q).1.1 (cor (1, 0) (0, 1) q).1.2 = 1 := gcd_of_cr (cor_det q (1, 0) (0, 1))
theorem cor_gcd2 (q : List Bool) : Int.gcd (cor (1, 0) (0, 1) q).2.1 (cor (1, 0) (0, 1) q).2.2 = 1 := by
  refine gcd_of_cr (v := (-(cor (1, 0) (0, 1) q).1.1, -(cor (1, 0) (0, 1) q).1.2)) ?_
  have d : cr (cor (1, 0) (0, 1) q).1 (cor (1, 0) (0, 1) q).2 = 1 := cor_det q (1, 0) (0, 1)
  simp only [cr] at d ⊢
  grind
end Sb
namespace K87
open PySem PySem.Spec PyProof.Rows L2 Vy
def handD (cells : List Int) (i p c k : Int) : D := .lst [.lst (cells.map .int), .int i, .int p, .int c, .int k]
def Hd (d : D) : Prop := ∃ cells i p c k, d = handD cells i p c k ∧ 0 ≤ i
theorem pw18 : dPow (.int 10) (.int 18) = some (.cl (.int (10 ^ 18))) := rfl
theorem ev_hand (ns : List Int) (h : ns.length ≤ 63) : ∃ ds, Hd (.lst ds) ∧ ∃ ρ', f__law_hand [.va (.scr ns)] = .ok (.fr (.lst ds)) ρ' := by
  have key : ∀ ds : List D, (∀ d ∈ ds, ∃ n, d = .int n) → ds.length ≤ 63 → ∃ cells : List Int, lcL [2] (gSet 2) (pure true) ce0__law_hand ds [] [.va (.scr ns), .no, .no] = .ok (.fr (.lst (cells.map .int))) [.va (.scr ns), .no, .no] := by
    intro ds hd hl
    have e := lcL_map (g := gSet 2) (is := [2]) (ρ := [.va (.scr ns), .no, .no]) (ρ0 := [.va (.scr ns), .no, .no]) (me := ce0__law_hand) (fun d => match d with
      | .int n => .int (n.natAbs : Int)
      | d => d) (ds := ds) (by simp) (sz (by omega)) fun d hm => by
        obtain ⟨n, rfl⟩ := hd d hm
        exact ⟨[.va (.scr ns), .no, .va (.int n)], .cl (.int (n.natAbs : Int)), [.va (.scr ns), .no, .va (.int n)], rfl, by simp [ce0__law_hand], rfl, rfl⟩
    rw [e]
    refine ⟨ds.map fun d => match d with
      | .int n => (n.natAbs : Int)
      | _ => 0, ?_⟩
    congr 3
    rw [List.map_map]
    refine List.map_congr_left fun d hm => ?_
    obtain ⟨n, rfl⟩ := hd d hm
    rfl
  obtain ⟨cells, hc⟩ := key (Vy.cutD (ns.map .int) none (some 63)) (fun d hm => by
    have := List.mem_of_mem_drop (List.mem_of_mem_take hm)
    obtain ⟨n, _, rfl⟩ := List.mem_map.mp this
    exact ⟨n, rfl⟩) (by
      unfold Vy.cutD
      rw [List.length_take, List.length_drop, List.length_map]
      simp only [HT.sIx]
      omega)
  refine ⟨[.lst (cells.map .int), .int 0, .int 0, .int (4571 + 7 * (cells.length : Int)), .int 0], ⟨cells, 0, 0, 4571 + 7 * (cells.length : Int), 0, rfl, Int.le_refl _⟩, ?_⟩
  simp [f__law_hand, m__law_hand, st0__law_hand, st1__law_hand, bodyF, dSl, hc, ev_mulI]
theorem draw0 {d : D} (h : Hd d) (m : Int) : ∃ d' x, Hd d' ∧ st0__law_draw [.io d, .va (.int m), .no, .no, .no] = .ok .nx [.io d', .va (.int m), x, .no, .no] := by
  obtain ⟨cells, i, p, c, k, rfl, hi⟩ := h
  obtain ⟨j, rfl⟩ := Int.eq_ofNat_of_zero_le hi
  by_cases c1 : p = 0
  · by_cases c2 : (j : Int) < cells.length
    · have hj : j < cells.length := by omega
      have hx : (cells.map D.int)[j]? = some (.int cells[j]) := by rw [List.getElem?_map, List.getElem?_eq_getElem hj]; rfl
      by_cases c3 : cells[j] ≥ 10 ^ 18
      · refine ⟨handD cells (j + 1) cells[j] ((c * 69621 + cells[j] * 40692 + 31) % 2147483629) k, .va (.int cells[j]), ⟨_, _, _, _, _, rfl, by omega⟩, ?_⟩
        subst c1
        have c3 : 1000000000000000000 ≤ cells[j] := c3
        simp [st0__law_draw, handD, c2, ev_ixL hx, ev_mulR, ev_modI, pw18, c3]
      · refine ⟨handD cells (j + 1) 0 ((c * 69621 + cells[j] * 40692 + 31) % 2147483629) k, .va (.int cells[j]), ⟨_, _, _, _, _, rfl, by omega⟩, ?_⟩
        subst c1
        have c3 : ¬ 1000000000000000000 ≤ cells[j] := c3
        simp [st0__law_draw, handD, c2, ev_ixL hx, ev_mulR, ev_modI, pw18, c3]
    · exact ⟨_, .no, ⟨cells, j, p, c, k, rfl, hi⟩, by simp [st0__law_draw, handD, c1, c2]⟩
  · exact ⟨_, .no, ⟨cells, j, p, c, k, rfl, hi⟩, by simp [st0__law_draw, handD, c1]⟩
def n1 (c k : Int) : Int := (c + 7919 * (k + 1)) * 48271 % 2147483647
def n2 (c k : Int) : Int := n1 c k * (n1 c k / 1009 + 69621) % 2147483647
def n3 (c k : Int) : Int := n2 c k * (n2 c k / 2003 + 40014) % 2147483563
theorem ev_draw {d : D} (h : Hd d) {m : Int} (h0 : 0 < m) (h1 : m < 1073741824) : ∃ r d', Hd d' ∧ 0 ≤ r ∧ r < m ∧ ∃ ρ', f__law_draw [.io d, .va (.int m)] = .ok (.cl (.int r)) ρ' ∧ ρ'[0]? = some (.io d') := by
  obtain ⟨d1, x, hd1, e1⟩ := draw0 h m
  obtain ⟨cells, i, p, c, k, rfl, hi⟩ := hd1
  have q : ∀ z : Int, 0 ≤ z % m ∧ z % m < m := fun z => ⟨Int.emod_nonneg _ (by omega), Int.emod_lt_of_pos _ h0⟩
  by_cases c1 : p > 0
  · refine ⟨p % m, handD cells i (p / m) c k, ⟨_, _, _, _, _, rfl, hi⟩, (q p).1, (q p).2, ?_⟩
    simp [f__law_draw, m__law_draw, bodyF, e1]
    simp [st1__law_draw, handD, c1, ev_modI h0, ev_divI h0 h1]
  · have b1 : (n1 c k).natAbs < 2 ^ 64 := by unfold n1; omega
    have b2 : (n2 c k).natAbs < 2 ^ 64 := by unfold n2; omega
    refine ⟨n3 c k / 16 % m, handD cells i p c (k + 1), ⟨_, _, _, _, _, rfl, hi⟩, (q _).1, (q _).2, ?_⟩
    simp [f__law_draw, m__law_draw, bodyF, e1]
    have e2 : ∀ r : Fl → M Fl, (st1__law_draw [.io (handD cells i p c k), .va (.int m), x, .no, .no]).then r = r .nx [.io (handD cells i p c k), .va (.int m), x, .no, .no] := fun r => by
      simp [st1__law_draw, handD, c1]
    have e3 : st3__law_draw [.io (handD cells i p c (k + 1)), .va (.int m), x, .no, .no] = .ok .nx [.io (handD cells i p c (k + 1)), .va (.int m), x, .no, .va (.int (n1 c k))] := by
      simp [st3__law_draw, handD, ev_modI, ev_mulI, ev_mulR, n1]
    have e4 : st4__law_draw [.io (handD cells i p c (k + 1)), .va (.int m), x, .no, .va (.int (n1 c k))] = .ok .nx [.io (handD cells i p c (k + 1)), .va (.int m), x, .no, .va (.int (n2 c k))] := by
      simp [st4__law_draw, ev_modI, ev_mulI b1, ev_divI, n2]
    have e5 : st5__law_draw [.io (handD cells i p c (k + 1)), .va (.int m), x, .no, .va (.int (n2 c k))] = .ok .nx [.io (handD cells i p c (k + 1)), .va (.int m), x, .no, .va (.int (n3 c k))] := by
      simp [st5__law_draw, ev_modI, ev_mulI b2, ev_divI, n3]
    rw [e2]
    simp [st2__law_draw, handD]
    simp only [handD] at e3 e4 e5
    simp [e3, e4, e5, st6__law_draw, ev_modI h0, ev_divI]
theorem draw_io {d : D} (h : Hd d) {m : Int} (h0 : 0 < m) (h1 : m < 1073741824) {ρ : State} {i : Nat} {sl : Slot} (hs : ρ[i]? = some sl) (ho : ownD (some sl) = some d) : ∃ r d' sl', Hd d' ∧ 0 ≤ r ∧ r < m ∧ sl.put d' = some sl' ∧ liftIO i f__law_draw [.va (.int m)] ρ = .ok (.cl (.int r)) (ρ.set i sl') := by
  obtain ⟨r, d', hd', r0, r1, ρ', e, e0⟩ := ev_draw h h0 h1
  cases sl with
  | no => cases ho
  | va _ => cases ho
  | ow d0 => cases ho; exact ⟨r, d', .ow d', hd', r0, r1, rfl, ev_liftIO hs rfl e e0 rfl⟩
  | io d0 => cases ho; exact ⟨r, d', .io d', hd', r0, r1, rfl, ev_liftIO hs rfl e e0 rfl⟩
end K87
namespace K87
open PySem PySem.Spec PyProof.Rows L2 Vy
/-! looks at any thing -/
def kids : D → List D
  | .tup xs => xs
  | .lst xs => xs
  | _ => []
def Pl : Nat → D → Prop
  | 0, d => (tyN d == "?") = false
  | n + 1, d => (tyN d == "?") = false ∧ ∀ x ∈ kids d, Pl n x
theorem Pl.ty : ∀ {n : Nat} {d : D}, Pl n d → (tyN d == "?") = false
  | 0, _, h => h
  | _ + 1, _, h => h.1
theorem Pl.kid {n : Nat} {d x : D} (h : Pl (n + 1) d) (hx : x ∈ kids d) : Pl n x := h.2 x hx
def isI : D → Bool
  | .int _ => true
  | _ => false
def numOk : D → Bool
  | .int n => decide (-10000 ≤ n) && decide (n ≤ 10000)
  | _ => false
def dotOk : D → Bool
  | .tup [a, b] => numOk a && numOk b
  | _ => false
def dotsOk : D → Bool
  | .tup xs => decide (1 ≤ xs.length) && decide (xs.length ≤ 40) && xs.all dotOk
  | _ => false
theorem ev_isint (d : D) (h : Pl 0 d) : ∃ ρ', f_is_integer [.va d] = .ok (.cl (.bl (isI d))) ρ' := by
  cases d <;> first | (simp [f_is_integer, m_is_integer, bodyF, dIsi, tyN, isiB, isI]; done) | (exact absurd h (by simp [Pl, tyN]))
theorem ev_within (d : D) (h : Pl 0 d) : ∃ ρ', f_is_within [.va d, .va (.int (-10000)), .va (.int 10000)] = .ok (.cl (.bl (numOk d))) ρ' := by
  have e := ev_isint d h
  cases d with
  | int n =>
    by_cases c : -10000 ≤ n
    · simp [f_is_within, m_is_within, bodyF, ev_liftE e, numOk, isI, c]
    · simp [f_is_within, m_is_within, bodyF, ev_liftE e, numOk, isI, c]
  | _ => simp [f_is_within, m_is_within, bodyF, ev_liftE e, numOk, isI]
theorem all_map (G : D → Bool) (ds : List D) : dAll (.lst (ds.map fun d => .bl (G d))) = some (.cl (.bl (ds.all G))) := by
  have e : (ds.map fun d => D.bl (G d)) = (ds.map G).map D.bl := by rw [List.map_map]; rfl
  unfold dAll
  simp only [e, bsOf_map, Option.map_some]
  congr 3
  rw [List.all_map]
  rfl
theorem ev_isdot (d : D) (h : Pl 1 d) : ∃ ρ', f_is_dot [.va d] = .ok (.cl (.bl (dotOk d))) ρ' := by
  cases d with
  | tup xs =>
    by_cases c : xs.length = 2
    · have e := lcL_map (g := gSet 1) (is := [1]) (ρ := [.va (.tup xs), .no]) (ρ0 := [.va (.tup xs), .no]) (me := ce0_is_dot) (fun d => .bl (numOk d)) (ds := xs) rfl (sz (by omega)) fun d hm =>
        ⟨[.va (.tup xs), .va d], .cl (.bl (numOk d)), [.va (.tup xs), .va d], rfl, by simp [ce0_is_dot, ev_liftE (ev_within d (h.kid hm))], rfl, rfl⟩
      have a := all_map numOk xs
      have ci : (xs.length : Int) = 2 := by omega
      have r : dotOk (.tup xs) = xs.all numOk := by
        match xs, c with
        | [a, b], _ => simp [dotOk]
      rw [r]
      simp [f_is_dot, m_is_dot, st0_is_dot, st1_is_dot, bodyF, dIsi, tyN, isiB, e, a, ci]
    · have ci : ¬ (xs.length : Int) = 2 := by omega
      have r : dotOk (.tup xs) = false := by
        match xs, c with
        | [], _ => rfl
        | [_], _ => rfl
        | [_, _], c => simp at c
        | _ :: _ :: _ :: _, _ => rfl
      rw [r]
      simp [f_is_dot, m_is_dot, st0_is_dot, bodyF, dIsi, tyN, isiB, ci]
  | _ => first | (simp [f_is_dot, m_is_dot, st0_is_dot, bodyF, dIsi, tyN, isiB, dotOk]; done) | (exact absurd h (by simp [Pl, tyN]))
end K87
namespace K87
open PySem PySem.Spec PyProof.Rows L2 Vy
/-! nice things: of plain kinds all through, shown in few signs -/
structure Ni (w k : Nat) (d : D) : Prop where
  pl : ∀ n, Pl n d
  py : ∃ p, d.pyS = some p ∧ p.showable = true ∧ p.leavesShort 13 = true ∧ p.weight ≤ w ∧ p.depth ≤ k
theorem Ni.up {w k w' k' : Nat} {d : D} (h : Ni w k d) (hw : w ≤ w') (hk : k ≤ k') : Ni w' k' d := by
  obtain ⟨p, h1, h2, h3, h4, h5⟩ := h.py
  exact ⟨h.pl, p, h1, h2, h3, by omega, by omega⟩
theorem Ni.repr {w k : Nat} {d : D} (h : Ni w k d) (hw : w ≤ 1048576) (hk : k ≤ 64) : ∃ s, dReprS d = some (.cl (.str s)) := by
  obtain ⟨p, h1, h2, h3, h4, h5⟩ := h.py
  have e := PyData.shown_fits (B := 13) (by decide) (by decide) h3 (show p.weight ≤ 2 ^ 20 from Nat.le_trans h4 (Nat.le_trans hw (by decide)))
  have hd : p.depth ≤ 64 := by omega
  refine ⟨p.shown, ?_⟩
  unfold dReprS
  rw [h1]
  simp only [h2, e, hd, decide_true, Bool.and_self, if_true]
theorem pl_leaf {d : D} (h1 : (tyN d == "?") = false) (h2 : kids d = []) : ∀ n, Pl n d
  | 0 => h1
  | n + 1 => ⟨h1, fun x hx => by rw [h2] at hx; cases hx⟩
theorem log_lt {a : Int} (h : a.natAbs < 10 ^ 12) : a.natAbs.log2 < 40 := by
  by_cases z : a.natAbs = 0
  · rw [z]; decide
  · exact (Nat.log2_lt z).mpr (Nat.lt_trans h (by decide))
theorem Ni.int {n : Int} (h : n.natAbs < 10 ^ 12) : Ni 40 0 (.int n) := by
  have l := log_lt h
  have s := PyData.shown_int_le h
  refine ⟨pl_leaf rfl rfl, .int n, by simp [D.pyS], ?_, ?_, ?_, ?_⟩
  · simp only [PyData.showable, decide_eq_true_eq]; omega
  · simp only [PyData.leavesShort, decide_eq_true_eq]; exact s
  · simp only [PyData.weight]; split <;> omega
  · simp [PyData.depth]
theorem ni_all {w k : Nat} : ∀ {xs : List D}, (∀ x ∈ xs, Ni w k x) → ∃ ps, pySL xs = some ps ∧ PyData.showableAll ps = true ∧ PyData.leavesShortAll 13 ps = true ∧ PyData.weightAll ps ≤ xs.length * (w + 1) ∧ PyData.depthAll ps ≤ k
  | [], _ => ⟨[], rfl, rfl, rfl, by simp [PyData.weightAll], by simp [PyData.depthAll]⟩
  | x :: xs, h => by
    obtain ⟨p, h1, h2, h3, h4, h5⟩ := (h x List.mem_cons_self).py
    obtain ⟨ps, q1, q2, q3, q4, q5⟩ := ni_all fun y hy => h y (List.mem_cons_of_mem _ hy)
    refine ⟨p :: ps, by simp only [pySL, h1, q1], by simp only [PyData.showableAll, h2, q2, Bool.and_self], by simp only [PyData.leavesShortAll, h3, q3, Bool.and_self], ?_, ?_⟩
    · simp only [PyData.weightAll, List.length_cons]
      rw [Nat.succ_mul]
      omega
    · simp only [PyData.depthAll]
      omega
theorem Ni.tup {w k : Nat} {xs : List D} (h : ∀ x ∈ xs, Ni w k x) : Ni (xs.length * (w + 1)) (k + 1) (.tup xs) := by
  obtain ⟨ps, h1, h2, h3, h4, h5⟩ := ni_all h
  refine ⟨fun n => ?_, .tuple ps, by simp only [D.pyS, h1, Option.map_some], by simpa only [PyData.showable] using h2, by simpa only [PyData.leavesShort] using h3, by simpa only [PyData.weight] using h4, by simp only [PyData.depth]; omega⟩
  cases n with
  | zero => exact rfl
  | succ n => exact ⟨rfl, fun x hx => (h x hx).pl n⟩
theorem Ni.lst {w k : Nat} {xs : List D} (h : ∀ x ∈ xs, Ni w k x) : Ni (xs.length * (w + 1)) (k + 1) (.lst xs) := by
  obtain ⟨ps, h1, h2, h3, h4, h5⟩ := ni_all h
  refine ⟨fun n => ?_, .list ps, by simp only [D.pyS, h1, Option.map_some], by simpa only [PyData.showable] using h2, by simpa only [PyData.leavesShort] using h3, by simpa only [PyData.weight] using h4, by simp only [PyData.depth]; omega⟩
  cases n with
  | zero => exact rfl
  | succ n => exact ⟨rfl, fun x hx => (h x hx).pl n⟩
/-! draws -/
theorem draw_at {d : D} (h : Hd d) {m : Int} (h0 : 0 < m) (h1 : m < 1073741824) : ∃ r d', Hd d' ∧ 0 ≤ r ∧ r < m ∧ (∀ rest, liftIO 0 f__law_draw [.va (.int m)] (.io d :: rest) = .ok (.cl (.int r)) (.io d' :: rest)) := by
  obtain ⟨r, d', hd', r0, r1, ρ', e, e0⟩ := ev_draw h h0 h1
  exact ⟨r, d', hd', r0, r1, fun rest => ev_liftIO rfl rfl e e0 rfl⟩
theorem ev_any {d : D} (h : Hd d) {ds : List D} (h0 : ds ≠ []) (h1 : ds.length < 1000) : ∃ x d', x ∈ ds ∧ Hd d' ∧ (∀ rest, liftIO 0 f__law_any [.va (.lst ds)] (.io d :: rest) = .ok (.cl x) (.io d' :: rest)) := by
  have hp : 0 < ds.length := List.length_pos_iff.mpr h0
  obtain ⟨r, d', hd', r0, r1, e⟩ := draw_at h (m := (ds.length : Int)) (by omega) (by omega)
  obtain ⟨j, rfl⟩ := Int.eq_ofNat_of_zero_le r0
  have hj : j < ds.length := by omega
  refine ⟨ds[j], d', List.getElem_mem hj, hd', fun rest => ?_⟩
  have f : f__law_any [.io d, .va (.lst ds)] = .ok (.cl ds[j]) [.io d', .va (.lst ds)] := by
    simp [f__law_any, m__law_any, bodyF, e, ev_ixL (List.getElem?_eq_getElem hj)]
  exact ev_liftIO rfl rfl f rfl rfl
end K87
namespace K87
open PySem PySem.Spec PyProof.Rows L2 Vy
def NoIo (y : Vy.Slot) : Prop := ∀ D, y ≠ .io D
theorem NoIo.va (d : D) : NoIo (.va d) := fun D z => nomatch z
theorem NoIo.ow (d : D) : NoIo (.ow d) := fun D z => nomatch z
theorem NoIo.no : NoIo .no := fun D z => nomatch z
theorem put_noio {i : Nat} {r : R} {ρ : State} {y : Vy.Slot} (h : ρ[i]? = some y) (n : NoIo y) : put i r ρ = some (ρ.set i r.slot) := by
  unfold put
  rw [h]
  cases y <;> first | rfl | exact absurd rfl (n _)
theorem range_cons (k : Int) (n : Nat) : rangeD k (n + 1) = .int k :: rangeD (k + 1) n := by
  unfold rangeD
  rw [List.range_succ_eq_map, List.map_cons, List.map_map]
  congr 1
  · simp
  · refine List.map_congr_left fun i _ => ?_
    show D.int (k + ((i + 1 : Nat) : Int)) = D.int (k + 1 + (i : Int))
    congr 1
    omega
/-! deep -/
def Hol (t : D) (s : Vy.Slot) : Prop := s = .va t ∨ s = .ow t
/-- a deep thing -/
inductive Ds : D → Prop
  | non : Ds .non
  | tup {t : D} : Ds t → Ds (.tup [t])
  | lst {t : D} : Ds t → Ds (.lst [t])
theorem deep_turn {d t : D} (h : Hd d) {s : Vy.Slot} (hs : Hol t s) (y : Vy.Slot) : ∃ d' t' s', Hd d' ∧ Hol t' s' ∧ (((∀ n, Pl n t) → ∀ n, Pl n t') ∧ (Ds t → Ds t')) ∧ fb0__law_deep [.io d, s, y] = .ok .nx [.io d', s', y] := by
  obtain ⟨r, d1, hd1, r0, r1, e1⟩ := draw_at h (m := 2) (by decide) (by decide)
  by_cases c : r = 0
  · subst c
    refine ⟨d1, .tup [t], .va (.tup [t]), hd1, .inl rfl, ⟨fun p n => ?_, .tup⟩, ?_⟩
    · cases n with
      | zero => rfl
      | succ n => exact ⟨rfl, fun x hx => by rw [List.mem_singleton.mp hx]; exact p n⟩
    · rcases hs with rfl | rfl <;> simp [fb0__law_deep, e1]
  · refine ⟨d1, .lst [t], .ow (.lst [t]), hd1, .inr rfl, ⟨fun p n => ?_, .lst⟩, ?_⟩
    · cases n with
      | zero => rfl
      | succ n => exact ⟨rfl, fun x hx => by rw [List.mem_singleton.mp hx]; exact p n⟩
    · rcases hs with rfl | rfl <;> simp [fb0__law_deep, e1, c]
theorem deep_for : ∀ (n : Nat) (k : Int) (d t : D) (s y : Vy.Slot), Hd d → Hol t s → ((∀ n, Pl n t) ∧ Ds t) → NoIo y → ∃ d' t' s' z, Hd d' ∧ Hol t' s' ∧ ((∀ n, Pl n t') ∧ Ds t') ∧ forL (gSet 2) fb0__law_deep (rangeD k n) [.io d, s, y] = .ok .nx [.io d', s', z]
  | 0, _, d, t, s, y, h, hs, p, _ => ⟨d, t, s, y, h, hs, p, rfl⟩
  | n + 1, k, d, t, s, y, h, hs, p, hy => by
    have e0 : gSet 2 (.int k) [.io d, s, y] = some [.io d, s, .va (.int k)] := put_noio (i := 2) rfl hy
    obtain ⟨d1, t1, s1, hd1, hs1, p1, e1⟩ := deep_turn h hs (.va (.int k))
    obtain ⟨d', t', s', z, a, b, c, e2⟩ := deep_for n (k + 1) d1 t1 s1 (.va (.int k)) hd1 hs1 ⟨p1.1 p.1, p1.2 p.2⟩ (NoIo.va _)
    refine ⟨d', t', s', z, a, b, c, ?_⟩
    rw [range_cons, ev_forL1 e0, e1, ev_then]
    exact e2
theorem ev_deep {d : D} (h : Hd d) : ∃ r d', Hd d' ∧ ((∀ n, Pl n r.d) ∧ Ds r.d) ∧ ∃ ρ', f__law_deep [.io d] = .ok r ρ' ∧ ρ'[0]? = some (.io d') := by
  obtain ⟨m, d1, hd1, r0, r1, e1⟩ := draw_at h (m := 40) (by decide) (by decide)
  obtain ⟨j, rfl⟩ := Int.eq_ofNat_of_zero_le r0
  obtain ⟨d2, t, s, z, hd2, hs, p, e2⟩ := deep_for (1 + j) 0 d1 .non (.va .non) .no hd1 (.inl rfl) ⟨pl_leaf rfl rfl, .non⟩ NoIo.no
  have er : range1 (.int (1 + (j : Int))) = some (rangeD 0 (1 + j)) := by
    have z : big62 (1 + (j : Int)) = true := decide_eq_true ⟨by omega, by omega⟩
    have z2 : (1 + (j : Int)).toNat = 1 + j := by omega
    simp only [range1, z, if_true, z2]
  have s1 : st1__law_deep [.io d, .va .non, .no] = .ok .nx [.io d2, s, z] := by
    generalize rangeD 0 (1 + j) = L at er e2
    generalize hq : (1 : Int) + (j : Int) = q at er
    unfold st1__law_deep
    rw [ev_for, ev_range1, ev_op, ev_c, ev_then, ev_bind, ev_callIO]
    simp only [ev_peek, List.getElem?_cons_zero, ev_p3, ev_then, ev_bind, ev_cons, ev_nil, ev_c, ev_pure, List.map_cons, List.map_nil]
    rw [e1, ev_then, ev_addI, hq, ev_opt, ev_then, er, ev_opt, ev_then, e2]
  rcases hs with rfl | rfl
  · refine ⟨.cl t, d2, hd2, p, [.io d2, .va t, z], ?_, rfl⟩
    simp [f__law_deep, m__law_deep, bodyF, st0__law_deep, s1, st2__law_deep]
  · refine ⟨.fr t, d2, hd2, p, ?_⟩
    simp [f__law_deep, m__law_deep, bodyF, st0__law_deep, s1, st2__law_deep]
theorem lcL_step {is : List Nat} {g : Tg} {me : M R} {d : D} {ds acc : List D} {ρ ρ1 ρ2 : State} {r : R} (h1 : g d (wipeR ρ is) = some ρ1) (h2 : me ρ1 = .ok r ρ2) (h3 : acc.length < sizeLine) : lcL is g (pure true) me (d :: ds) acc ρ = lcL is g (pure true) me ds (acc ++ [r.d]) ρ2 := by
  show (match g d (wipeR ρ is) with
    | none => Res.er
    | some ρ1 => (noEx (pure true) >>= fun b => if b then noEx me >>= fun r => if acc.length < sizeLine then lcL is g (pure true) me ds (acc ++ [r.d]) else M.fail else lcL is g (pure true) me ds acc) ρ1) = _
  rw [h1]
  show ((noEx me) ρ1).then (fun r => if acc.length < sizeLine then lcL is g (pure true) me ds (acc ++ [r.d]) else M.fail) = _
  unfold noEx
  rw [h2, ev_then, if_pos h3]
theorem range_er (n : Nat) (hn : n ≤ 50) : range1 (.int (n : Int)) = some (rangeD 0 n) := by
  have z : big62 (n : Int) = true := decide_eq_true ⟨by omega, by omega⟩
  have z2 : (n : Int).toNat = n := by omega
  simp only [range1, z, if_true, z2]
end K87
namespace K87
open PySem PySem.Spec PyProof.Rows L2 Vy Sb
def pD (p : P2) : D := .tup [.int p.1, .int p.2]
/-! the greatest common divisor -/
theorem gcd_loop : ∀ (k n a b : Nat), b < 2 ^ k → 2 * k + 1 ≤ n → whileN wt0_common_divisor wb0_common_divisor n [.va (.int a), .va (.int b)] = .ok .nx [.va (.int (Nat.gcd a b : Nat)), .va (.int 0)] := by
  have base : ∀ (n a : Nat), 1 ≤ n → whileN wt0_common_divisor wb0_common_divisor n [.va (.int a), .va (.int 0)] = .ok .nx [.va (.int a), .va (.int 0)] := fun n a h => by
    obtain ⟨m, rfl⟩ : ∃ m, n = m + 1 := ⟨n - 1, by omega⟩
    exact ev_while0 (by simp [wt0_common_divisor])
  have step : ∀ (n a b : Nat), 0 < b → whileN wt0_common_divisor wb0_common_divisor (n + 1) [.va (.int a), .va (.int b)] = whileN wt0_common_divisor wb0_common_divisor n [.va (.int b), .va (.int (a % b : Nat))] := fun n a b h => by
    have hb : (0 : Int) < b := by omega
    rw [ev_while1 (ρ' := [.va (.int a), .va (.int b)]) (by simp [wt0_common_divisor, hb, h])]
    simp [wb0_common_divisor, ev_modI hb]
  intro k
  induction k with
  | zero =>
    intro n a b h hn
    have : b = 0 := by omega
    subst this
    rw [Nat.gcd_zero_right]
    exact base n a (by omega)
  | succ k ih =>
    intro n a b h hn
    rcases Nat.eq_zero_or_pos b with rfl | hb
    · rw [Nat.gcd_zero_right]
      exact base n a (by omega)
    · obtain ⟨m, rfl⟩ : ∃ m, n = m + 1 := ⟨n - 1, by omega⟩
      rw [step m a b hb]
      rcases Nat.eq_zero_or_pos (a % b) with hc | hc
      · have e : Nat.gcd a b = b := by rw [Nat.gcd_comm, Nat.gcd_rec, hc, Nat.gcd_zero_left]
        rw [hc, e]
        exact base m b (by omega)
      · obtain ⟨m2, rfl⟩ : ∃ m2, m = m2 + 1 := ⟨m - 1, by omega⟩
        rw [step m2 b (a % b) hc]
        have l1 : a % b < b := Nat.mod_lt _ hb
        have l2 : b % (a % b) < a % b := Nat.mod_lt _ hc
        have l3 : a % b * (b / (a % b)) + b % (a % b) = b := Nat.div_add_mod _ _
        have l4 : 1 ≤ b / (a % b) := Nat.div_pos (by omega) hc
        have l5 : a % b * 1 ≤ a % b * (b / (a % b)) := Nat.mul_le_mul_left _ l4
        have l6 : 2 ^ (k + 1) = 2 * 2 ^ k := by rw [Nat.pow_succ]; omega
        have e : Nat.gcd a b = Nat.gcd (a % b) (b % (a % b)) := by
          rw [Nat.gcd_comm a b, Nat.gcd_rec b a, Nat.gcd_rec (a % b) b, Nat.gcd_comm]
        rw [e]
        exact ih m2 (a % b) (b % (a % b)) (by omega) (by omega)
theorem ev_gcd (a b : Int) (h : b.natAbs < 2 ^ 60) : ∃ ρ', f_common_divisor [.va (.int a), .va (.int b)] = .ok (.cl (.int (Int.gcd a b))) ρ' := by
  have e := gcd_loop 60 200 a.natAbs b.natAbs h (by decide)
  refine ⟨[.va (.int (Int.gcd a b)), .va (.int 0)], ?_⟩
  simp [f_common_divisor, m_common_divisor, st0_common_divisor, st1_common_divisor, st2_common_divisor, bodyF, e, Int.gcd]
/-! rays -/
def Wn (p : P2) : Prop := -10000 ≤ p.1 ∧ p.1 ≤ 10000 ∧ -10000 ≤ p.2 ∧ p.2 ≤ 10000
theorem pl_pt (p : P2) : Pl 1 (pD p) := ⟨rfl, fun x hx => by
  rcases List.mem_cons.mp hx with rfl | hx
  · rfl
  · rw [List.mem_singleton.mp hx]; rfl⟩
theorem pt_dot {p : P2} (h : Wn p) : dotOk (pD p) = true := by
  obtain ⟨_, _, _, _⟩ := h
  simp [dotOk, numOk, pD, *]
theorem ev_ray {p : P2} (h : Wn p) : ∃ ρ', f_is_ray [.va (pD p)] = .ok (.cl (.bl (decide (Int.gcd p.1 p.2 = 1)))) ρ' := by
  have e1 := ev_isdot (pD p) (pl_pt p)
  rw [pt_dot h] at e1
  obtain ⟨_, _, _, _⟩ := h
  have e2 := ev_gcd p.1 p.2 (by omega)
  have c : decide (((Int.gcd p.1 p.2 : Nat) : Int) = 1) = decide (Int.gcd p.1 p.2 = 1) := decide_eq_decide.mpr (by omega)
  unfold pD at *
  simp [f_is_ray, m_is_ray, bodyF, ev_liftE e1, ev_liftE e2, c]
theorem ev_noray {d : D} (h : Pl 1 d) (k : dotOk d = false) : ∃ ρ', f_is_ray [.va d] = .ok (.cl (.bl false)) ρ' := by
  have e1 := ev_isdot d h
  rw [k] at e1
  simp [f_is_ray, m_is_ray, bodyF, ev_liftE e1]
/-- no ray -/
def NoR (d : D) : Prop := ∃ ρ', f_is_ray [.va d] = .ok (.cl (.bl false)) ρ'
def Ray (p : P2) : Prop := Wn p ∧ Int.gcd p.1 p.2 = 1
theorem ck_no {d : D} (h : NoR d) : ∃ ρ', f_check_ray [.va d] = .ex "NoRay" [] [] ρ' := by
  simp [f_check_ray, m_check_ray, bodyF, ev_liftE h]
theorem ck_ray {p : P2} (h : Ray p) : ∃ ρ', f_check_ray [.va (pD p)] = .ok (.cl .non) ρ' := by
  have e := ev_ray h.1
  rw [h.2] at e
  simp [f_check_ray, m_check_ray, bodyF, ev_liftE e]
theorem ev_turn (a b : P2) (h1 : a.1.natAbs < 2 ^ 64) (h2 : a.2.natAbs < 2 ^ 64) : ∃ ρ', f_raw_turn [.va (pD a), .va (pD b)] = .ok (.cl (.int (cr a b))) ρ' := by
  simp [f_raw_turn, m_raw_turn, bodyF, pD, cr, ev_mulI h1, ev_mulI h2]
theorem gcd_loop2 : ∀ (k n a b : Nat), b < 2 ^ k → 2 * k + 1 ≤ n → whileN wt0__law_divisor wb0__law_divisor n [.va (.int a), .va (.int b)] = .ok .nx [.va (.int (Nat.gcd a b : Nat)), .va (.int 0)] := by
  have ec : wt0__law_divisor = wt0_common_divisor := rfl
  have eb : ∀ (a b : Int), wb0__law_divisor [.va (.int a), .va (.int b)] = wb0_common_divisor [.va (.int a), .va (.int b)] := fun a b => by
    simp [wb0__law_divisor, wb0_common_divisor]
  have base : ∀ (n a : Nat), 1 ≤ n → whileN wt0__law_divisor wb0__law_divisor n [.va (.int a), .va (.int 0)] = .ok .nx [.va (.int a), .va (.int 0)] := fun n a h => by
    obtain ⟨m, rfl⟩ : ∃ m, n = m + 1 := ⟨n - 1, by omega⟩
    exact ev_while0 (by simp [wt0__law_divisor])
  have step : ∀ (n a b : Nat), 0 < b → whileN wt0__law_divisor wb0__law_divisor (n + 1) [.va (.int a), .va (.int b)] = whileN wt0__law_divisor wb0__law_divisor n [.va (.int b), .va (.int (a % b : Nat))] := fun n a b h => by
    have hb : (0 : Int) < b := by omega
    rw [ev_while1 (ρ' := [.va (.int a), .va (.int b)]) (by simp [wt0__law_divisor, hb, h])]
    simp [wb0__law_divisor, ev_modI hb]
  intro k
  induction k with
  | zero =>
    intro n a b h hn
    have : b = 0 := by omega
    subst this
    rw [Nat.gcd_zero_right]
    exact base n a (by omega)
  | succ k ih =>
    intro n a b h hn
    rcases Nat.eq_zero_or_pos b with rfl | hb
    · rw [Nat.gcd_zero_right]
      exact base n a (by omega)
    · obtain ⟨m, rfl⟩ : ∃ m, n = m + 1 := ⟨n - 1, by omega⟩
      rw [step m a b hb]
      rcases Nat.eq_zero_or_pos (a % b) with hc | hc
      · have e : Nat.gcd a b = b := by rw [Nat.gcd_comm, Nat.gcd_rec, hc, Nat.gcd_zero_left]
        rw [hc, e]
        exact base m b (by omega)
      · obtain ⟨m2, rfl⟩ : ∃ m2, m = m2 + 1 := ⟨m - 1, by omega⟩
        rw [step m2 b (a % b) hc]
        have l1 : a % b < b := Nat.mod_lt _ hb
        have l2 : b % (a % b) < a % b := Nat.mod_lt _ hc
        have l3 : a % b * (b / (a % b)) + b % (a % b) = b := Nat.div_add_mod _ _
        have l4 : 1 ≤ b / (a % b) := Nat.div_pos (by omega) hc
        have l5 : a % b * 1 ≤ a % b * (b / (a % b)) := Nat.mul_le_mul_left _ l4
        have l6 : 2 ^ (k + 1) = 2 * 2 ^ k := by rw [Nat.pow_succ]; omega
        have e : Nat.gcd a b = Nat.gcd (a % b) (b % (a % b)) := by
          rw [Nat.gcd_comm a b, Nat.gcd_rec b a, Nat.gcd_rec (a % b) b, Nat.gcd_comm]
        rw [e]
        exact ih m2 (a % b) (b % (a % b)) (by omega) (by omega)
theorem ev_lgcd (a b : Int) (h : b.natAbs < 2 ^ 60) : ∃ ρ', f__law_divisor [.va (.int a), .va (.int b)] = .ok (.cl (.int (Int.gcd a b))) ρ' := by
  have e := gcd_loop2 60 200 a.natAbs b.natAbs h (by decide)
  refine ⟨[.va (.int (Int.gcd a b)), .va (.int 0)], ?_⟩
  simp [f__law_divisor, m__law_divisor, st0__law_divisor, st1__law_divisor, st2__law_divisor, bodyF, e, Int.gcd]
/-! == of points -/
theorem eqB_pt (p q : P2) : dEqB (pD p) (pD q) = some (decide (p = q)) := by
  have hp : ∀ p : P2, (pD p).py = some (.tuple [.int p.1, .int p.2]) := fun p => by simp [pD, D.py, pyL]
  have hs : ∀ p : P2, SeqAt.shaped (.tuple [.int p.1, .int p.2]) = true := fun p => by
    unfold SeqAt.shaped
    simp [PyData.canLay0, PyData.canLayAll0, PyData.depth, PyData.depthAll]
  unfold dEqB
  rw [show (pD p) = .tup [.int p.1, .int p.2] from rfl, show (pD q) = .tup [.int q.1, .int q.2] from rfl] at *
  have h1 := hp p
  have h2 := hp q
  unfold pD at h1 h2
  simp only [h1, h2, hs, Bool.and_self, if_true, PyData.eqv, PyData.eqvAll, Bool.and_true]
  obtain ⟨a, b⟩ := p
  obtain ⟨c, d⟩ := q
  by_cases h1 : a = c <;> by_cases h2 : b = d <;> simp [h1, h2]
theorem eq_pt (p q : P2) : dEq (pD p) (pD q) = some (.cl (.bl (decide (p = q)))) := by
  unfold dEq
  rw [eqB_pt]
  rfl
theorem ne_pt (p q : P2) : dNe (pD p) (pD q) = some (.cl (.bl (!decide (p = q)))) := by
  unfold dNe
  rw [eqB_pt]
  rfl
def pyP (p : P2) : PyData := .tuple [.int p.1, .int p.2]
theorem py_pts : ∀ P : List P2, pyL (P.map pD) = some (P.map pyP)
  | [] => rfl
  | p :: P => by
    have e : (pD p).py = some (pyP p) := by simp [D.py, pyL, pyP, pD]
    simp only [List.map_cons, pyL, e, py_pts P]
theorem lay_pts : ∀ P : List P2, PyData.canLayAll0 (P.map pyP) = true
  | [] => rfl
  | p :: P => by
    simp only [List.map_cons, PyData.canLayAll0, lay_pts P, pyP, PyData.canLay0, Bool.and_self]
theorem dep_pts : ∀ P : List P2, PyData.depthAll (P.map pyP) ≤ 1
  | [] => by simp [PyData.depthAll]
  | p :: P => by
    have := dep_pts P
    simp only [List.map_cons, PyData.depthAll, pyP, PyData.depth]
    omega
theorem eqv_pts : ∀ P Q : List P2, PyData.eqvAll (P.map pyP) (Q.map pyP) = decide (P = Q)
  | [], [] => by simp [PyData.eqvAll]
  | [], _ :: _ => by simp [PyData.eqvAll]
  | _ :: _, [] => by simp [PyData.eqvAll]
  | (a, b) :: P, (c, d) :: Q => by
    simp only [List.map_cons, PyData.eqvAll, eqv_pts P Q, pyP, PyData.eqv, Bool.and_true]
    by_cases h1 : a = c <;> by_cases h2 : b = d <;> by_cases h3 : P = Q <;> simp [h1, h2, h3]
theorem eqB_pts (P Q : List P2) : dEqB (.tup (P.map pD)) (.tup (Q.map pD)) = some (decide (P = Q)) := by
  have hp : ∀ P : List P2, (D.tup (P.map pD)).py = some (.tuple (P.map pyP)) := fun P => by simp only [D.py, py_pts, Option.map_some]
  have hs : ∀ P : List P2, SeqAt.shaped (.tuple (P.map pyP)) = true := fun P => by
    unfold SeqAt.shaped
    have h1 := dep_pts P
    simp only [PyData.canLay0, lay_pts, PyData.depth, Bool.true_and, decide_eq_true_eq]
    exact decide_eq_true (Nat.le_trans (Nat.succ_le_succ h1) (by decide : 2 ≤ 64))
  unfold dEqB
  simp only [hp, hs, Bool.and_self, if_true, PyData.eqv, eqv_pts]
theorem eq_pts (P Q : List P2) : dEq (.tup (P.map pD)) (.tup (Q.map pD)) = some (.cl (.bl (decide (P = Q)))) := by
  unfold dEq
  rw [eqB_pts]
  rfl
theorem ne_pts (P Q : List P2) : dNe (.tup (P.map pD)) (.tup (Q.map pD)) = some (.cl (.bl (!decide (P = Q)))) := by
  unfold dNe
  rw [eqB_pts]
  rfl
theorem wn64 {p : P2} (h : Wn p) : p.1.natAbs < 2 ^ 64 ∧ p.2.natAbs < 2 ^ 64 := by
  obtain ⟨_, _, _, _⟩ := h
  omega
theorem cc_no1 {x y : D} (h : NoR x) : ∃ ρ', f_check_corner [.va x, .va y] = .ex "NoRay" [] [] ρ' := by
  simp [f_check_corner, m_check_corner, st0_check_corner, bodyF, ev_liftX (ck_no h)]
theorem cc_no2 {p : P2} {y : D} (hp : Ray p) (h : NoR y) : ∃ ρ', f_check_corner [.va (pD p), .va y] = .ex "NoRay" [] [] ρ' := by
  simp [f_check_corner, m_check_corner, st0_check_corner, st1_check_corner, bodyF, ev_liftX (ck_no h), ev_liftE (ck_ray hp)]
theorem cc_flat {p r : P2} (hp : Ray p) (hr : Ray r) (h : cr p r ≤ 0) : ∃ ρ', f_check_corner [.va (pD p), .va (pD r)] = .ex "NoCorner" [] [] ρ' := by
  have t := ev_turn p r (wn64 hp.1).1 (wn64 hp.1).2
  simp [f_check_corner, m_check_corner, st0_check_corner, st1_check_corner, st2_check_corner, bodyF, ev_liftE (ck_ray hr), ev_liftE (ck_ray hp), ev_liftE t, h]
theorem cc_ok {p r : P2} (hp : Ray p) (hr : Ray r) (h : 0 < cr p r) : ∃ ρ', f_check_corner [.va (pD p), .va (pD r)] = .ok (.cl .non) ρ' := by
  have t := ev_turn p r (wn64 hp.1).1 (wn64 hp.1).2
  have h' : ¬ cr p r ≤ 0 := by omega
  simp [f_check_corner, m_check_corner, st0_check_corner, st1_check_corner, st2_check_corner, bodyF, ev_liftE (ck_ray hr), ev_liftE (ck_ray hp), ev_liftE t, h']
end K87
/-! ### rays by angle -/
namespace Rd
open Sb
def hf (p : P2) : Int := if 0 < p.2 ∨ (p.2 = 0 ∧ 0 < p.1) then 0 else 1
def ahd (a b : P2) : Bool := decide (hf a < hf b) || (decide (hf a = hf b) && decide (0 < cr a b))
def insA (x : P2) (L : List P2) : List P2 := if x ∈ L then L else L.take (L.filter (ahd · x)).length ++ x :: L.drop (L.filter (ahd · x)).length
def byA (rs : List P2) : List P2 := rs.foldl (fun L x => insA x L) []
theorem insA_len (x : P2) (L : List P2) : (insA x L).length ≤ L.length + 1 := by
  unfold insA
  split
  · omega
  · rw [List.length_append, List.length_cons, List.length_take, List.length_drop]
    have := List.length_filter_le (ahd · x) L
    omega
theorem mem_insA {x z : P2} {L : List P2} : z ∈ insA x L ↔ z = x ∨ z ∈ L := by
  unfold insA
  split
  · rename_i h
    constructor
    · exact .inr
    · rintro (rfl | k)
      · exact h
      · exact k
  · have e : ∀ k : Nat, z ∈ L.take k ++ x :: L.drop k ↔ z = x ∨ z ∈ L := fun k => by
      constructor
      · intro h
        rcases List.mem_append.mp h with h | h
        · exact .inr (List.mem_of_mem_take h)
        · rcases List.mem_cons.mp h with h | h
          · exact .inl h
          · exact .inr (List.mem_of_mem_drop h)
      · rintro (rfl | h)
        · exact List.mem_append_right _ List.mem_cons_self
        · rw [← List.take_append_drop k L] at h
          rcases List.mem_append.mp h with h | h
          · exact List.mem_append_left _ h
          · exact List.mem_append_right _ (List.mem_cons_of_mem _ h)
    exact e _
theorem fold_len : ∀ (rs L : List P2), (rs.foldl (fun L x => insA x L) L).length ≤ L.length + rs.length
  | [], L => by simp
  | x :: rs, L => by
    have h := fold_len rs (insA x L)
    have k := insA_len x L
    rw [List.foldl_cons, List.length_cons]
    omega
theorem mem_fold {z : P2} : ∀ (rs L : List P2), z ∈ rs.foldl (fun L x => insA x L) L ↔ z ∈ L ∨ z ∈ rs
  | [], L => by simp
  | x :: rs, L => by
    rw [List.foldl_cons, mem_fold rs, mem_insA, List.mem_cons]
    constructor
    · rintro ((h | h) | h)
      · exact .inr (.inl h)
      · exact .inl h
      · exact .inr (.inr h)
    · rintro (h | h | h)
      · exact .inl (.inr h)
      · exact .inl (.inl h)
      · exact .inr h
theorem byA_len (rs : List P2) : (byA rs).length ≤ rs.length := by
  have := fold_len rs []
  simpa [byA] using this
theorem mem_byA {z : P2} {rs : List P2} : z ∈ byA rs ↔ z ∈ rs := by
  unfold byA
  rw [mem_fold]
  simp
/-! the rays of small numbers -/
def rng (m : Nat) : List Int := (List.range (2 * m + 1)).map fun i : Nat => -(m : Int) + (i : Int)
theorem mem_rng {m : Nat} {z : Int} : z ∈ rng m ↔ -(m : Int) ≤ z ∧ z ≤ m := by
  unfold rng
  rw [List.mem_map]
  constructor
  · rintro ⟨i, hi, rfl⟩
    have := List.mem_range.mp hi
    omega
  · intro h
    exact ⟨(z + m).toNat, List.mem_range.mpr (by omega), by omega⟩
theorem rng_len (m : Nat) : (rng m).length = 2 * m + 1 := by simp [rng]
def row (m : Nat) (x : Int) : List P2 := (rng m).map fun y => (x, y)
def g1 (q : P2) : Bool := decide (Int.gcd q.1 q.2 = 1)
def cone (a b q : P2) : Bool := decide (0 < cr a q) && decide (0 < cr q b)
def wth (m : Nat) (a b : P2) : List P2 := (rng m).flatMap fun x => (row m x).filter fun q => g1 q && cone a b q
theorem mem_wth {m : Nat} {a b q : P2} : q ∈ wth m a b ↔ (-(m : Int) ≤ q.1 ∧ q.1 ≤ m) ∧ (-(m : Int) ≤ q.2 ∧ q.2 ≤ m) ∧ g1 q = true ∧ cone a b q = true := by
  unfold wth row
  rw [List.mem_flatMap]
  constructor
  · rintro ⟨x, hx, hq⟩
    obtain ⟨h1, h2⟩ := List.mem_filter.mp hq
    obtain ⟨y, hy, rfl⟩ := List.mem_map.mp h1
    exact ⟨mem_rng.mp hx, mem_rng.mp hy, Bool.and_eq_true_iff.mp h2⟩
  · rintro ⟨h1, h2, h3, h4⟩
    exact ⟨q.1, mem_rng.mpr h1, List.mem_filter.mpr ⟨List.mem_map.mpr ⟨q.2, mem_rng.mpr h2, rfl⟩, by rw [h3, h4]; rfl⟩⟩
theorem wth_two (m : Nat) (a b : P2) : ((rng m).flatMap fun x => (row m x).filter g1).filter (cone a b) = wth m a b := by
  unfold wth
  rw [List.filter_flatMap]
  congr 1
  funext x
  rw [List.filter_filter]
  congr 1
  funext q
  exact Bool.and_comm _ _
theorem row_len (m : Nat) (x : Int) : (row m x).length = 2 * m + 1 := by simp [row, rng_len]
theorem flat_len (p : P2 → Bool) (m : Nat) : ∀ xs : List Int, (xs.flatMap fun x => (row m x).filter p).length ≤ xs.length * (2 * m + 1)
  | [] => by simp
  | x :: xs => by
    rw [List.flatMap_cons, List.length_append, List.length_cons, Nat.succ_mul]
    have h := flat_len p m xs
    have k := List.length_filter_le p (row m x)
    rw [row_len] at k
    omega
theorem wth_len (m : Nat) (a b : P2) : (wth m a b).length ≤ (2 * m + 1) * (2 * m + 1) := by
  have := flat_len (fun q => g1 q && cone a b q) m (rng m)
  rw [rng_len] at this
  exact this
theorem g1_ne {q : P2} (h : g1 q = true) : q ≠ (0, 0) := by
  rintro rfl
  simp [g1] at h
/-! sizes -/
def sz (q : P2) : Nat := q.1.natAbs + q.2.natAbs
end Rd
namespace K87
open PySem PySem.Spec PyProof.Rows L2 Vy Sb Rd
theorem szL {n : Nat} (h : n ≤ 100000) : n ≤ sizeLine := Nat.le_trans h (by decide)
theorem szl {n : Nat} (h : n ≤ 100000) : n < sizeLine := Nat.lt_of_le_of_lt h (by decide)
/-! == and in of lots of dots -/
theorem shp_pts (P : List P2) : SeqAt.shaped (.list (P.map pyP)) = true := by
  unfold SeqAt.shaped
  have h1 := dep_pts P
  simp only [PyData.canLay0, lay_pts, PyData.depth, Bool.true_and, decide_eq_true_eq]
  exact decide_eq_true (Nat.le_trans (Nat.succ_le_succ h1) (by decide : 2 ≤ 64))
theorem py_pt (p : P2) : (pD p).py = some (pyP p) := by simp [D.py, pyL, pyP, pD]
theorem shp_pt (p : P2) : SeqAt.shaped (pyP p) = true := by
  unfold SeqAt.shaped
  simp [pyP, PyData.canLay0, PyData.canLayAll0, PyData.depth, PyData.depthAll]
theorem eqv_pt (p q : P2) : PyData.eqv (pyP p) (pyP q) = decide (p = q) := by
  obtain ⟨a, b⟩ := p
  obtain ⟨c, d⟩ := q
  simp only [pyP, PyData.eqv, PyData.eqvAll, Bool.and_true]
  by_cases h1 : a = c <;> by_cases h2 : b = d <;> simp [h1, h2]
theorem any_pts (p : P2) (P : List P2) : ((P.map pyP).any fun z => PyData.eqv z (pyP p)) = decide (p ∈ P) := by
  rw [List.any_map]
  rw [Bool.eq_iff_iff, List.any_eq_true, decide_eq_true_eq]
  constructor
  · rintro ⟨q, hq, e⟩
    have e : PyData.eqv (pyP q) (pyP p) = true := e
    rw [eqv_pt, decide_eq_true_eq] at e
    rw [← e]; exact hq
  · intro h
    refine ⟨p, h, ?_⟩
    show PyData.eqv (pyP p) (pyP p) = true
    rw [eqv_pt, decide_eq_true_eq]
theorem in_pts (p : P2) (P : List P2) : dInB (pD p) (.lst (P.map pD)) = some (decide (p ∈ P)) := by
  unfold dInB
  rw [py_pt]
  simp only [py_pts, shp_pt, shp_pts, Bool.and_self, if_true, any_pts]
theorem notin_pts (p : P2) (P : List P2) : dNotInA (pD p) (.lst (P.map pD)) = some (.cl (.bl (!decide (p ∈ P)))) := by
  unfold dNotInA orE dNotIn
  rw [in_pts]
  rfl
/-! comes_ahead -/
def Sm (p : P2) : Prop := p.1.natAbs < 2 ^ 64 ∧ p.2.natAbs < 2 ^ 64
theorem ev_half (p : P2) : ∃ ρ', f_half_of [.va (pD p)] = .ok (.cl (.int (hf p))) ρ' := by
  unfold hf
  by_cases c : 0 < p.2
  · simp [f_half_of, m_half_of, bodyF, pD, c]
  · by_cases c2 : p.2 = 0
    · by_cases c3 : 0 < p.1
      · simp [f_half_of, m_half_of, bodyF, pD, c2, c3]
      · simp [f_half_of, m_half_of, bodyF, pD, c2, c3]
    · simp [f_half_of, m_half_of, bodyF, pD, c, c2]
theorem ev_ahead (a b : P2) (h : Sm a) : ∃ ρ', f_comes_ahead [.va (pD a), .va (pD b)] = .ok (.cl (.bl (ahd a b))) ρ' := by
  have t := ev_turn a b h.1 h.2
  have e1 := ev_half a
  have e2 := ev_half b
  have s0 : st0_comes_ahead [.va (pD a), .va (pD b), .no, .no] = .ok .nx [.va (pD a), .va (pD b), .va (.int (hf a)), .va (.int (hf b))] := by
    simp [st0_comes_ahead, ev_liftE e1, ev_liftE e2]
  unfold ahd
  by_cases c1 : hf a < hf b
  · simp [f_comes_ahead, m_comes_ahead, bodyF, s0, st1_comes_ahead, c1]
  · by_cases c2 : hf a = hf b
    · simp [f_comes_ahead, m_comes_ahead, bodyF, s0, st1_comes_ahead, c2, ev_liftE t]
    · simp [f_comes_ahead, m_comes_ahead, bodyF, s0, st1_comes_ahead, c1, c2]
/-! comprehensions over dots -/
def unp : D → P2
  | .tup [.int a, .int b] => (a, b)
  | _ => (0, 0)
theorem unp_pD (p : P2) : unp (pD p) = p := rfl
theorem lc_pts {is : List Nat} {g : Tg} {mt : M Bool} {me : M R} {ρ ρ0 : State} (p : P2 → Bool) (L : List P2) (hw : wipeR ρ is = ρ0) (hl : L.length ≤ 100000)
    (h : ∀ q ∈ L, ∃ ρ1, g (pD q) ρ0 = some ρ1 ∧ mt ρ1 = .ok (p q) ρ1 ∧ me ρ1 = .ok (.cl (pD q)) ρ1 ∧ wipeR ρ1 is = ρ0) : lcL is g mt me (L.map pD) [] ρ = .ok (.fr (.lst ((L.filter p).map pD))) ρ0 := by
  have e := lcL_flt (g := g) (mt := mt) (me := me) (is := is) (ρ0 := ρ0) (fun d => p (unp d)) (fun d => d) (L.map pD) [] ρ hw (by rw [List.length_nil, List.length_map, Nat.zero_add]; exact szL hl) fun d hd => by
    obtain ⟨q, hq, rfl⟩ := List.mem_map.mp hd
    obtain ⟨ρ1, h1, h2, h3, h4⟩ := h q hq
    exact ⟨ρ1, ρ1, h1, h2, fun _ => ⟨.cl (pD q), ρ1, h3, rfl, h4⟩, fun _ => h4⟩
  rw [e, List.nil_append, List.map_id', List.filter_map]
  rfl
theorem ins_step {x : P2} {L : List P2} (hs : ∀ q ∈ L, Sm q) (hl : L.length ≤ 50000) (x0 : Vy.Slot) : fb0_by_angle [x0, .ow (.lst (L.map pD)), .va (pD x), .no] = .ok .nx [x0, .ow (.lst ((insA x L).map pD)), .va (pD x), .no] := by
  have ni := notin_pts x L
  have e := lc_pts (is := [3]) (g := gSet 3) (mt := ct0_by_angle) (me := ce0_by_angle) (ρ := [x0, .no, .va (pD x), .no]) (ρ0 := [x0, .no, .va (pD x), .no]) (fun q => ahd q x) L (by simp) (by omega) fun q hq =>
    ⟨[x0, .no, .va (pD x), .va (pD q)], by simp, by simp [ct0_by_angle, ev_liftE (ev_ahead q x (hs q hq))], by simp [ce0_by_angle], by simp⟩
  have eo := ev_lcO (is := [3]) (i := 1) (g := gSet 3) (mt := ct0_by_angle) (me := ce0_by_angle) (ρ := [x0, .ow (.lst (L.map pD)), .va (pD x), .no]) rfl e
  have kl := List.length_filter_le (fun q => ahd q x) L
  unfold insA
  generalize hk : (L.filter fun q => ahd q x) = F at *
  by_cases c : x ∈ L
  · simp [fb0_by_angle, ni, c]
  · have fi : fIns (.int ((F.map pD).length : Nat)) (pD x) (L.map pD) = some (.non, (L.take F.length ++ x :: L.drop F.length).map pD) := by
      have e2 : fIns (.int ((F.map pD).length : Nat)) (pD x) (L.map pD) = if (L.map pD).length < sizeLine ∧ 0 ≤ (((F.map pD).length : Nat) : Int) ∧ (((F.map pD).length : Nat) : Int) < 2 ^ 63 then some (.non, (L.map pD).take (((F.map pD).length : Nat) : Int).toNat ++ pD x :: (L.map pD).drop (((F.map pD).length : Nat) : Int).toNat) else none := rfl
      rw [e2, if_pos ⟨by rw [List.length_map]; exact szl (by omega), by omega, by rw [List.length_map]; omega⟩]
      simp
    rw [List.length_map] at fi
    simp only [List.set_cons_succ, List.set_cons_zero] at eo
    simp [fb0_by_angle, ni, c, eo, fi]
theorem byA_loop (x0 : Vy.Slot) : ∀ (rs L : List P2) (x2 : Vy.Slot), NoIo x2 → (∀ q ∈ L, Sm q) → (∀ q ∈ rs, Sm q) → L.length + rs.length ≤ 50000 → ∃ z, forL (gSet 2) fb0_by_angle (rs.map pD) [x0, .ow (.lst (L.map pD)), x2, .no] = .ok .nx [x0, .ow (.lst ((rs.foldl (fun L x => insA x L) L).map pD)), z, .no]
  | [], L, x2, _, _, _, _ => ⟨x2, rfl⟩
  | r :: rs, L, x2, n2, hL, hr, hl => by
    have e0 : gSet 2 (pD r) [x0, .ow (.lst (L.map pD)), x2, .no] = some [x0, .ow (.lst (L.map pD)), .va (pD r), .no] := put_noio (i := 2) rfl n2
    have k := insA_len r L
    rw [List.length_cons] at hl
    obtain ⟨z, ih⟩ := byA_loop x0 rs (insA r L) (.va (pD r)) (NoIo.va _) (fun q hq => by
      rcases mem_insA.mp hq with rfl | hq
      · exact hr q List.mem_cons_self
      · exact hL q hq) (fun q hq => hr q (List.mem_cons_of_mem _ hq)) (by omega)
    refine ⟨z, ?_⟩
    rw [List.map_cons, ev_forL1 e0, ins_step hL (by omega), ev_then]
    exact ih
theorem ev_byA (rs : List P2) (hs : ∀ q ∈ rs, Sm q) (hl : rs.length ≤ 50000) : ∃ ρ', f_by_angle [.va (.lst (rs.map pD))] = .ok (.fr (.lst ((byA rs).map pD))) ρ' := by
  obtain ⟨z, e⟩ := byA_loop (.va (.lst (rs.map pD))) rs [] .no NoIo.no (fun _ h => nomatch h) hs (by simpa using hl)
  have e1 : st1_by_angle [.va (.lst (rs.map pD)), .ow (.lst []), .no, .no] = .ok .nx [.va (.lst (rs.map pD)), .ow (.lst ((byA rs).map pD)), z, .no] := by
    rw [List.map_nil] at e
    generalize hR : rs.map pD = R at *
    simp [st1_by_angle, e]
    rfl
  generalize rs.map pD = R at *
  simp [f_by_angle, m_by_angle, bodyF, st0_by_angle, e1, st2_by_angle]
end K87
namespace K87
open PySem PySem.Spec PyProof.Rows L2 Vy Sb Rd
theorem ev_wn (n a b : Int) : ∃ ρ', f_is_within [.va (.int n), .va (.int a), .va (.int b)] = .ok (.cl (.bl (decide (a ≤ n) && decide (n ≤ b)))) ρ' := by
  have e := ev_isint (.int n) rfl
  have i1 : isI (.int n) = true := rfl
  rw [i1] at e
  by_cases c : a ≤ n
  · simp [f_is_within, m_is_within, bodyF, ev_liftE e, c]
  · simp [f_is_within, m_is_within, bodyF, ev_liftE e, c]
theorem ev_wno (d : D) (h : Pl 0 d) (k : isI d = false) (a b : Int) : ∃ ρ', f_is_within [.va d, .va (.int a), .va (.int b)] = .ok (.cl (.bl false)) ρ' := by
  have e := ev_isint d h
  rw [k] at e
  simp [f_is_within, m_is_within, bodyF, ev_liftE e]
theorem rngD (m : Nat) : rangeD (-(m : Int)) (2 * m + 1) = (rng m).map D.int := by
  unfold rangeD rng
  rw [List.map_map]
  rfl
theorem rng_er (m : Nat) (h : m ≤ 1000) : range2 (.int (-(m : Int))) (.int ((m : Int) + 1)) = some ((rng m).map D.int) := by
  have a : big62 (-(m : Int)) = true := decide_eq_true ⟨by omega, by omega⟩
  have b : big62 ((m : Int) + 1) = true := decide_eq_true ⟨by omega, by omega⟩
  have c : ((m : Int) + 1 - -(m : Int)).toNat = 2 * m + 1 := by omega
  simp only [range2, a, b, Bool.and_self, if_true, c, rngD]
def unI : D → Int
  | .int n => n
  | _ => 0
/-! the program's own -/
theorem rw_ct (x0 x1 x2 x3 x6 : Vy.Slot) (x y : Int) (hy : y.natAbs < 2 ^ 60) : ct0_rays_within [x0, x1, x2, x3, .va (.int x), .va (.int y), x6] = .ok (g1 (x, y)) [x0, x1, x2, x3, .va (.int x), .va (.int y), x6] := by
  have e := ev_gcd x y hy
  have c : decide (((Int.gcd x y : Nat) : Int) = 1) = g1 (x, y) := decide_eq_decide.mpr (by show _ ↔ Int.gcd x y = 1; omega)
  simp [ct0_rays_within, ev_liftE e, c]
theorem rw_row (x0 x1 : Vy.Slot) (m : Nat) (hm : m ≤ 1000) (x : Int) (L : List P2) (hl : L.length ≤ 90000) : fb0_rays_within [x0, x1, .va (.int m), .ow (.lst (L.map pD)), .va (.int x), .no, .no] = .ok .nx [x0, x1, .va (.int m), .ow (.lst ((L ++ (row m x).filter g1).map pD)), .va (.int x), .no, .no] := by
  have er := rng_er m hm
  have e := lcL_flt (g := gSet 5) (mt := ct0_rays_within) (me := ce0_rays_within) (is := [5]) (ρ0 := [x0, x1, .va (.int m), .ow (.lst (L.map pD)), .va (.int x), .no, .no]) (fun d => g1 (x, unI d)) (fun d => pD (x, unI d)) ((rng m).map D.int) [] [x0, x1, .va (.int m), .ow (.lst (L.map pD)), .va (.int x), .no, .no] (by simp) (by rw [List.length_nil, List.length_map, rng_len]; exact szL (by omega)) fun d hd => by
    obtain ⟨y, hy, rfl⟩ := List.mem_map.mp hd
    have hy := mem_rng.mp hy
    refine ⟨[x0, x1, .va (.int m), .ow (.lst (L.map pD)), .va (.int x), .va (.int y), .no], _, by simp, rw_ct _ _ _ _ _ x y (by omega), fun _ => ⟨.cl (pD (x, y)), [x0, x1, .va (.int m), .ow (.lst (L.map pD)), .va (.int x), .va (.int y), .no], by simp [ce0_rays_within, pD], rfl, by simp⟩, fun _ => by simp⟩
  have e2 : (((rng m).map D.int).filter fun d => g1 (x, unI d)).map (fun d => pD (x, unI d)) = ((row m x).filter g1).map pD := by
    unfold row
    rw [List.filter_map, List.filter_map, List.map_map, List.map_map]
    rfl
  rw [List.nil_append, e2] at e
  have k1 := List.length_filter_le g1 (row m x)
  rw [row_len] at k1
  generalize (row m x).filter g1 = R at *
  have fe : fExt (.lst (R.map pD)) (L.map pD) = some (.non, (L ++ R).map pD) := by
    have h : (L.map pD).length + (R.map pD).length ≤ sizeLine := by rw [List.length_map, List.length_map]; exact szL (by omega)
    unfold fExt
    simp only [h, if_true, List.map_append]
  generalize (rng m).map D.int = S at er e
  simp [fb0_rays_within, er, e, fe]
theorem rw_loop (x0 x1 : Vy.Slot) (m : Nat) (hm : m ≤ 40) : ∀ (xs : List Int) (L : List P2) (x4 : Vy.Slot), NoIo x4 → L.length + xs.length * (2 * m + 1) ≤ 90000 → ∃ z, forL (gSet 4) fb0_rays_within (xs.map D.int) [x0, x1, .va (.int m), .ow (.lst (L.map pD)), x4, .no, .no] = .ok .nx [x0, x1, .va (.int m), .ow (.lst ((L ++ xs.flatMap fun x => (row m x).filter g1).map pD)), z, .no, .no]
  | [], L, x4, _, _ => ⟨x4, by rw [List.flatMap_nil, List.append_nil]; rfl⟩
  | x :: xs, L, x4, n4, hl => by
    have e0 : gSet 4 (.int x) [x0, x1, .va (.int m), .ow (.lst (L.map pD)), x4, .no, .no] = some [x0, x1, .va (.int m), .ow (.lst (L.map pD)), .va (.int x), .no, .no] := put_noio (i := 4) rfl n4
    rw [List.length_cons, Nat.succ_mul] at hl
    have k1 := List.length_filter_le g1 (row m x)
    rw [row_len] at k1
    obtain ⟨z, ih⟩ := rw_loop x0 x1 m hm xs (L ++ (row m x).filter g1) (.va (.int x)) (NoIo.va _) (by rw [List.length_append]; omega)
    refine ⟨z, ?_⟩
    rw [List.map_cons, ev_forL1 e0, rw_row x0 x1 m (by omega) x L (by omega), ev_then]
    rw [List.flatMap_cons, ← List.append_assoc]
    exact ih
theorem wn_sm {p : P2} (h : Wn p) : Sm p := by
  obtain ⟨_, _, _, _⟩ := h
  exact ⟨by omega, by omega⟩
theorem ev_rw {a b : P2} (ha : Ray a) (hb : Ray b) (hc : 0 < cr a b) (m : Nat) (h1 : 1 ≤ m) (h2 : m ≤ 30) : ∃ ρ', f_rays_within [.va (pD a), .va (pD b), .va (.int m)] = .ok (.cl (.tup ((byA (wth m a b)).map pD))) ρ' := by
  have e0 := cc_ok ha hb hc
  have e1 := ev_wn m 1 30
  rw [decide_eq_true (by omega : (1 : Int) ≤ m), decide_eq_true (by omega : (m : Int) ≤ 30)] at e1
  have er := rng_er m (by omega)
  have big : (2 * m + 1) * (2 * m + 1) ≤ 61 * 61 := Nat.mul_le_mul (by omega) (by omega)
  obtain ⟨z, e3⟩ := rw_loop (.va (pD a)) (.va (pD b)) m (by omega) (rng m) [] .no NoIo.no (by rw [List.length_nil, rng_len]; omega)
  rw [List.nil_append, List.map_nil] at e3
  have le := flat_len g1 m (rng m)
  rw [rng_len] at le
  have sub : ∀ q ∈ (rng m).flatMap (fun x => (row m x).filter g1), Sm q := fun q hq => by
    obtain ⟨x, hx, hq⟩ := List.mem_flatMap.mp hq
    obtain ⟨y, hy, rfl⟩ := List.mem_map.mp (List.mem_filter.mp hq).1
    have hx := mem_rng.mp hx
    have hy := mem_rng.mp hy
    exact ⟨by show x.natAbs < _; omega, by show y.natAbs < _; omega⟩
  have tw := wth_two m a b
  generalize (rng m).flatMap (fun x => (row m x).filter g1) = C at *
  have e4 := lc_pts (is := [6]) (g := gSet 6) (mt := ct1_rays_within) (me := ce1_rays_within) (ρ := [.va (pD a), .va (pD b), .va (.int m), .no, z, .no, .no]) (ρ0 := [.va (pD a), .va (pD b), .va (.int m), .no, z, .no, .no]) (cone a b) C (by simp) (by omega) fun q hq =>
    ⟨[.va (pD a), .va (pD b), .va (.int m), .no, z, .no, .va (pD q)], by simp, by
      have t1 := ev_turn a q (wn_sm ha.1).1 (wn_sm ha.1).2
      have t2 := ev_turn q b (sub q hq).1 (sub q hq).2
      unfold cone
      by_cases c : 0 < cr a q
      · simp [ct1_rays_within, ev_liftE t1, ev_liftE t2, c]
      · simp [ct1_rays_within, ev_liftE t1, ev_liftE t2, c], by simp [ce1_rays_within], by simp⟩
  rw [tw] at e4
  have hw := wth_len m a b
  have e5 := ev_byA (wth m a b) (fun q hq => sub q (by rw [← tw] at hq; exact (List.mem_filter.mp hq).1)) (by omega)
  have eo := ev_lcO (is := [6]) (i := 3) (g := gSet 6) (mt := ct1_rays_within) (me := ce1_rays_within) (ρ := [.va (pD a), .va (pD b), .va (.int m), .ow (.lst (C.map pD)), z, .no, .no]) rfl e4
  have s3 : st3_rays_within [.va (pD a), .va (pD b), .va (.int m), .ow (.lst []), .no, .no, .no] = .ok .nx [.va (pD a), .va (pD b), .va (.int m), .ow (.lst (C.map pD)), z, .no, .no] := by
    generalize (rng m).map D.int = S at er e3
    generalize C.map pD = CC at e3 ⊢
    simp [st3_rays_within, er, e3]
  generalize (wth m a b).map pD = WD at e4 e5 eo
  generalize (byA (wth m a b)).map pD = BD at e5 ⊢
  generalize C.map pD = CC at *
  have s4 : ∃ ρ', st4_rays_within [.va (pD a), .va (pD b), .va (.int m), .ow (.lst CC), z, .no, .no] = .ok (.rt (.cl (.tup BD))) ρ' := by
    simp only [List.set_cons_succ, List.set_cons_zero] at eo
    simp [st4_rays_within, eo, ev_liftE e5]
  obtain ⟨ρ4, s4⟩ := s4
  simp [f_rays_within, m_rays_within, bodyF, st0_rays_within, st1_rays_within, st2_rays_within, ev_liftE e0, ev_liftE e1, s3, s4]
end K87
namespace K87
open PySem PySem.Spec PyProof.Rows L2 Vy Sb Rd
theorem ev_lturn (a b : P2) (h : Sm a) : ∃ ρ', f__law_turn [.va (pD a), .va (pD b)] = .ok (.cl (.int (cr a b))) ρ' := by
  simp [f__law_turn, m__law_turn, bodyF, pD, cr, ev_mulI h.1, ev_mulI h.2]
/-! the law's own rays between -/
theorem lb_one {a b : P2} (ha : Sm a) (m : Nat) (x y : Int) (hx : x.natAbs < 2 ^ 60) (hy : y.natAbs < 2 ^ 60) (L : List P2) (hl : L.length ≤ 90000) :
    fb0__law_between [.va (pD a), .va (pD b), .va (.int m), .ow (.lst (L.map pD)), .va (.int x), .va (.int y)] = .ok .nx [.va (pD a), .va (pD b), .va (.int m), .ow (.lst ((L ++ [(x, y)].filter fun q => g1 q && cone a b q).map pD)), .va (.int x), .va (.int y)] := by
  have e := ev_lgcd x y hy
  have t1 := ev_lturn a (x, y) ha
  have t2 := ev_lturn (x, y) b ⟨by show x.natAbs < _; omega, by show y.natAbs < _; omega⟩
  have c : decide (((Int.gcd x y : Nat) : Int) = 1) = g1 (x, y) := decide_eq_decide.mpr (by show _ ↔ Int.gcd x y = 1; omega)
  have fa : fApp (pD (x, y)) (L.map pD) = some (.non, (L ++ [(x, y)]).map pD) := by
    unfold fApp
    rw [if_pos (by rw [List.length_map]; exact szl (by omega))]
    simp
  have p1 : D.tup [.int x, .int y] = pD (x, y) := rfl
  have fl : ([(x, y)].filter fun q => g1 q && cone a b q) = if (g1 (x, y) && cone a b (x, y)) = true then [(x, y)] else [] := by
    rw [List.filter_cons]
    rfl
  rw [fl]
  unfold cone
  cases hg : g1 (x, y) with
  | false =>
    rw [hg] at c
    simp [fb0__law_between, ev_liftE e, c]
  | true =>
    rw [hg] at c
    have c := of_decide_eq_true c
    by_cases c1 : 0 < cr a (x, y)
    · by_cases c2 : 0 < cr (x, y) b
      · simp [fb0__law_between, ev_liftE e, c, p1, ev_liftE t1, ev_liftE t2, c1, c2, fa]
      · simp [fb0__law_between, ev_liftE e, c, p1, ev_liftE t1, ev_liftE t2, c1, c2]
    · simp [fb0__law_between, ev_liftE e, c, p1, ev_liftE t1, c1]
theorem lb_row {a b : P2} (ha : Sm a) (m : Nat) (x : Int) (hx : x.natAbs < 2 ^ 60) : ∀ (ys : List Int) (L : List P2) (x5 : Vy.Slot), NoIo x5 → (∀ y ∈ ys, y.natAbs < 2 ^ 60) → L.length + ys.length ≤ 90000 →
    ∃ z, NoIo z ∧ forL (gSet 5) fb0__law_between (ys.map D.int) [.va (pD a), .va (pD b), .va (.int m), .ow (.lst (L.map pD)), .va (.int x), x5] = .ok .nx [.va (pD a), .va (pD b), .va (.int m), .ow (.lst ((L ++ (ys.map fun y => (x, y)).filter fun q => g1 q && cone a b q).map pD)), .va (.int x), z]
  | [], L, x5, n5, _, _ => ⟨x5, n5, by simp⟩
  | y :: ys, L, x5, n5, hy, hl => by
    have e0 : gSet 5 (.int y) [.va (pD a), .va (pD b), .va (.int m), .ow (.lst (L.map pD)), .va (.int x), x5] = some [.va (pD a), .va (pD b), .va (.int m), .ow (.lst (L.map pD)), .va (.int x), .va (.int y)] := put_noio (i := 5) rfl n5
    rw [List.length_cons] at hl
    have k := List.length_filter_le (fun q => g1 q && cone a b q) [(x, y)]
    rw [List.length_singleton] at k
    obtain ⟨z, nz, ih⟩ := lb_row ha m x hx ys (L ++ [(x, y)].filter fun q => g1 q && cone a b q) (.va (.int y)) (NoIo.va _) (fun z hz => hy z (List.mem_cons_of_mem _ hz)) (by rw [List.length_append]; omega)
    refine ⟨z, nz, ?_⟩
    have f : (((y :: ys).map fun y => (x, y)).filter fun q => g1 q && cone a b q) = ([(x, y)].filter fun q => g1 q && cone a b q) ++ ((ys.map fun y => (x, y)).filter fun q => g1 q && cone a b q) := by
      rw [← List.filter_append]
      rfl
    rw [List.map_cons, ev_forL1 e0, lb_one ha m x y hx (hy y List.mem_cons_self) L (by omega), ev_then, f, ← List.append_assoc]
    exact ih
theorem lb_x {a b : P2} (ha : Sm a) (m : Nat) (hm : m ≤ 100) (x : Int) (hx : x.natAbs < 2 ^ 60) (L : List P2) (x5 : Vy.Slot) (n5 : NoIo x5) (hl : L.length + (2 * m + 1) ≤ 90000) : ∃ z, NoIo z ∧ fb1__law_between [.va (pD a), .va (pD b), .va (.int m), .ow (.lst (L.map pD)), .va (.int x), x5] =
    .ok .nx [.va (pD a), .va (pD b), .va (.int m), .ow (.lst ((L ++ (row m x).filter fun q => g1 q && cone a b q).map pD)), .va (.int x), z] := by
  have er := rng_er m (by omega)
  obtain ⟨z, nz, e⟩ := lb_row (b := b) ha m x hx (rng m) L x5 n5 (fun y hy => by have := mem_rng.mp hy; omega) (by rw [rng_len]; exact hl)
  refine ⟨z, nz, ?_⟩
  have er2 : range2 (.int (0 - (m : Int))) (.int ((m : Int) + 1)) = some ((rng m).map D.int) := by rw [Int.zero_sub]; exact er
  have f : (rng m).map (fun y => (x, y)) = row m x := rfl
  rw [f] at e
  generalize (rng m).map D.int = S at *
  generalize ((L ++ (row m x).filter fun q => g1 q && cone a b q).map pD) = R at *
  simp [fb1__law_between, er, e]
theorem lb_loop {a b : P2} (ha : Sm a) (m : Nat) (hm : m ≤ 100) : ∀ (xs : List Int) (L : List P2) (x4 x5 : Vy.Slot), NoIo x4 → NoIo x5 → (∀ x ∈ xs, x.natAbs < 2 ^ 60) → L.length + xs.length * (2 * m + 1) ≤ 90000 →
    ∃ z z2, forL (gSet 4) fb1__law_between (xs.map D.int) [.va (pD a), .va (pD b), .va (.int m), .ow (.lst (L.map pD)), x4, x5] = .ok .nx [.va (pD a), .va (pD b), .va (.int m), .ow (.lst ((L ++ xs.flatMap fun x => (row m x).filter fun q => g1 q && cone a b q).map pD)), z, z2]
  | [], L, x4, x5, _, _, _, _ => ⟨x4, x5, by rw [List.flatMap_nil, List.append_nil]; rfl⟩
  | x :: xs, L, x4, x5, n4, n5, hx, hl => by
    have e0 : gSet 4 (.int x) [.va (pD a), .va (pD b), .va (.int m), .ow (.lst (L.map pD)), x4, x5] = some [.va (pD a), .va (pD b), .va (.int m), .ow (.lst (L.map pD)), .va (.int x), x5] := put_noio (i := 4) rfl n4
    rw [List.length_cons, Nat.succ_mul] at hl
    have k1 := List.length_filter_le (fun q => g1 q && cone a b q) (row m x)
    rw [row_len] at k1
    obtain ⟨z5, m5, e1⟩ := lb_x (b := b) ha m hm x (hx x List.mem_cons_self) L x5 n5 (by omega)
    obtain ⟨z, z2, ih⟩ := lb_loop (b := b) ha m hm xs (L ++ (row m x).filter fun q => g1 q && cone a b q) (.va (.int x)) z5 (NoIo.va _) m5 (fun y hy => hx y (List.mem_cons_of_mem _ hy)) (by rw [List.length_append]; omega)
    refine ⟨z, z2, ?_⟩
    rw [List.map_cons, ev_forL1 e0, e1, ev_then, List.flatMap_cons, ← List.append_assoc]
    exact ih
/-! the law's own order -/
def prD (q : P2) : D := .tup [pD q, .int (hf q)]
def pyR (q : P2) : PyData := .tuple [pyP q, .int (hf q)]
theorem py_prs : ∀ P : List P2, pyL (P.map prD) = some (P.map pyR)
  | [] => rfl
  | p :: P => by
    have e : (prD p).py = some (pyR p) := by simp [prD, pyR, D.py, pyL, py_pt]
    simp only [List.map_cons, pyL, e, py_prs P]
theorem py_pr (q : P2) : (prD q).py = some (pyR q) := by simp [prD, pyR, D.py, pyL, py_pt]
theorem lay_pr (q : P2) : (pyR q).canLay0 = true := by simp [pyR, pyP, PyData.canLay0, PyData.canLayAll0]
theorem lay_prs : ∀ P : List P2, PyData.canLayAll0 (P.map pyR) = true
  | [] => rfl
  | p :: P => by
    simp only [List.map_cons, PyData.canLayAll0, lay_prs P, lay_pr, Bool.and_self]
theorem dep_pr (q : P2) : (pyR q).depth = 2 := by simp [pyR, pyP, PyData.depth, PyData.depthAll]
theorem dep_prs : ∀ P : List P2, PyData.depthAll (P.map pyR) ≤ 2
  | [] => by simp [PyData.depthAll]
  | p :: P => by
    have := dep_prs P
    simp only [List.map_cons, PyData.depthAll, dep_pr]
    omega
theorem eqv_pr (p q : P2) : PyData.eqv (pyR p) (pyR q) = decide (p = q) := by
  simp only [pyR, PyData.eqv, PyData.eqvAll, Bool.and_true]
  have e := eqv_pt p q
  rw [e]
  by_cases h : p = q
  · subst h; simp
  · simp [h]
theorem notin_prs (p : P2) (P : List P2) : dNotInA (prD p) (.lst (P.map prD)) = some (.cl (.bl (!decide (p ∈ P)))) := by
  have any : ((P.map pyR).any fun z => PyData.eqv z (pyR p)) = decide (p ∈ P) := by
    rw [List.any_map]
    rw [Bool.eq_iff_iff, List.any_eq_true, decide_eq_true_eq]
    constructor
    · rintro ⟨q, hq, e⟩
      have e : PyData.eqv (pyR q) (pyR p) = true := e
      rw [eqv_pr, decide_eq_true_eq] at e
      rw [← e]; exact hq
    · intro h
      refine ⟨p, h, ?_⟩
      show PyData.eqv (pyR p) (pyR p) = true
      rw [eqv_pr, decide_eq_true_eq]
  have s1 : SeqAt.shaped (pyR p) = true := by
    unfold SeqAt.shaped
    rw [lay_pr, dep_pr]
    rfl
  have s2 : SeqAt.shaped (.list (P.map pyR)) = true := by
    unfold SeqAt.shaped
    have h1 := dep_prs P
    simp only [PyData.canLay0, lay_prs, PyData.depth, Bool.true_and, decide_eq_true_eq]
    exact decide_eq_true (Nat.le_trans (Nat.succ_le_succ h1) (by decide : 3 ≤ 64))
  have e : dInB (prD p) (.lst (P.map prD)) = some (decide (p ∈ P)) := by
    unfold dInB
    rw [py_pr]
    simp only [py_prs, s1, s2, Bool.and_self, if_true, any]
  unfold dNotInA orE dNotIn
  rw [e]
  rfl
theorem hf_own {p : P2} (h : p ≠ (0, 0)) : hf p = if p.2 < 0 ∨ (p.2 = 0 ∧ p.1 < 0) then 1 else 0 := by
  unfold hf
  have n : ¬ (p.1 = 0 ∧ p.2 = 0) := fun z => h (Prod.ext z.1 z.2)
  by_cases c : 0 < p.2 ∨ (p.2 = 0 ∧ 0 < p.1)
  · rw [if_pos c, if_neg (by omega)]
  · rw [if_neg c, if_pos (by omega)]
end K87
namespace K87
open PySem PySem.Spec PyProof.Rows L2 Vy Sb Rd
theorem cut_to (xs : List D) (k : Nat) (h : k ≤ xs.length) : Vy.cutD xs none (some (k : Int)) = xs.take k := by
  unfold Vy.cutD
  rw [HT.sIx_none, HT.sIx_nat, List.drop_zero, Nat.sub_zero, Nat.min_eq_left h]
theorem cut_from (xs : List D) (k : Nat) (h : k ≤ xs.length) : Vy.cutD xs (some (k : Int)) none = xs.drop k := by
  unfold Vy.cutD
  rw [HT.sIx_none, HT.sIx_nat, Nat.min_eq_left h, List.take_of_length_le]
  rw [List.length_drop]
  exact Nat.le_refl _
theorem sr_one (x0 x1 : Vy.Slot) (r q : P2) (hq : Sm q) (k : Int) : fb0__law_sorted_round [x0, x1, .va (pD r), .va (.int (hf r)), .va (.int k), .va (pD q), .va (.int (hf q))] = .ok .nx [x0, x1, .va (pD r), .va (.int (hf r)), .va (.int (k + if ahd q r then 1 else 0)), .va (pD q), .va (.int (hf q))] := by
  have t := ev_lturn q r hq
  unfold ahd
  by_cases c1 : hf q < hf r
  · simp [fb0__law_sorted_round, c1, dInt]
  · by_cases c2 : hf q = hf r
    · by_cases c3 : 0 < cr q r
      · simp [fb0__law_sorted_round, c2, dInt, ev_liftE t, c3]
      · simp [fb0__law_sorted_round, c2, dInt, ev_liftE t, c3]
    · simp [fb0__law_sorted_round, c1, c2, dInt]
theorem sr_cnt (x0 x1 : Vy.Slot) (r : P2) : ∀ (P : List P2) (k : Nat) (x5 x6 : Vy.Slot), NoIo x5 → NoIo x6 → (∀ q ∈ P, Sm q) → ∃ z5 z6, NoIo z5 ∧ NoIo z6 ∧ forL (gTupD [5, 6]) fb0__law_sorted_round (P.map prD) [x0, x1, .va (pD r), .va (.int (hf r)), .va (.int k), x5, x6] =
    .ok .nx [x0, x1, .va (pD r), .va (.int (hf r)), .va (.int ((k + (P.filter (ahd · r)).length : Nat) : Int)), z5, z6]
  | [], k, x5, x6, n5, n6, _ => ⟨x5, x6, n5, n6, rfl⟩
  | q :: P, k, x5, x6, n5, n6, hs => by
    have e0 : gTupD [5, 6] (prD q) [x0, x1, .va (pD r), .va (.int (hf r)), .va (.int k), x5, x6] = some [x0, x1, .va (pD r), .va (.int (hf r)), .va (.int k), .va (pD q), .va (.int (hf q))] := by
      show (put 5 (.cl (pD q)) _).bind _ = _
      rw [put_noio (i := 5) rfl n5]
      show (put 6 (.cl (.int (hf q))) _).bind _ = _
      rw [put_noio (i := 6) rfl n6]
      rfl
    have e1 := sr_one x0 x1 r q (hs q List.mem_cons_self) k
    obtain ⟨z5, z6, m5, m6, ih⟩ := sr_cnt x0 x1 r P (k + if ahd q r then 1 else 0) (.va (pD q)) (.va (.int (hf q))) (NoIo.va _) (NoIo.va _) (fun z hz => hs z (List.mem_cons_of_mem _ hz))
    refine ⟨z5, z6, m5, m6, ?_⟩
    have c : ((k : Int) + if ahd q r = true then 1 else 0) = ((k + if ahd q r = true then 1 else 0 : Nat) : Int) := by
      split <;> omega
    rw [List.map_cons, ev_forL1 e0, e1, ev_then, c]
    have f : (k + if ahd q r = true then 1 else 0) + (P.filter (ahd · r)).length = k + ((q :: P).filter (ahd · r)).length := by
      rw [List.filter_cons]
      split
      · rw [List.length_cons]; omega
      · omega
    rw [f] at ih
    exact ih
theorem ins_prs {r : P2} {L : List P2} (c : ¬ r ∈ L) : (L.map prD).take (L.filter (ahd · r)).length ++ [prD r] ++ (L.map prD).drop (L.filter (ahd · r)).length = (insA r L).map prD := by
  unfold insA
  rw [if_neg c, List.map_append, List.map_cons, List.map_take, List.map_drop, List.append_assoc]
  rfl
theorem sr_step {r : P2} (hr : r ≠ (0, 0)) {L : List P2} (hs : ∀ q ∈ L, Sm q) (hl : L.length ≤ 50000) (x0 s : Vy.Slot) (hh : Hol (.lst (L.map prD)) s) (x3 x4 x5 x6 : Vy.Slot) (n3 : NoIo x3) (n4 : NoIo x4) (n5 : NoIo x5) (n6 : NoIo x6) :
    ∃ s' z3 z4 z5 z6, Hol (.lst ((insA r L).map prD)) s' ∧ NoIo z3 ∧ NoIo z4 ∧ NoIo z5 ∧ NoIo z6 ∧ fb1__law_sorted_round [x0, s, .va (pD r), x3, x4, x5, x6] = .ok .nx [x0, s', .va (pD r), z3, z4, z5, z6] := by
  obtain ⟨z5, z6, m5, m6, e⟩ := sr_cnt x0 (.va (.lst (L.map prD))) r L 0 x5 x6 n5 n6 hs
  rw [Nat.zero_add] at e
  have hk := List.length_filter_le (ahd · r) L
  have ni := notin_prs r L
  have hh3 : hf r = if r.2 < 0 ∨ (r.2 = 0 ∧ r.1 < 0) then 1 else 0 := hf_own hr
  have pr : D.tup [pD r, .int (hf r)] = prD r := rfl
  have p3 : ∀ (z : R) (y1 y2 : Vy.Slot), put 3 z [x0, y1, y2, x3, x4, x5, x6] = some [x0, y1, y2, z.slot, x4, x5, x6] := fun z y1 y2 => put_noio (i := 3) rfl n3
  have p4 : ∀ (z : R) (y1 y2 y3 : Vy.Slot), put 4 z [x0, y1, y2, y3, x4, x5, x6] = some [x0, y1, y2, y3, z.slot, x5, x6] := fun z y1 y2 y3 => put_noio (i := 4) rfl n4
  let A : M Fl := (mSet 3 (mIf (mOrT (mBool (mOp dLtA (mIxN 2 (mC (.int 1))) (mC (.int 0)))) (mAndT (mBool (mOp dEq (mIxN 2 (mC (.int 1))) (mC (.int 0)))) (mBool (mOp dLtA (mIxN 2 (mC (.int 0))) (mC (.int 0)))))) (mC (.int 1)) (mC (.int 0))))
  have eA : A [x0, s, .va (pD r), x3, x4, x5, x6] = .ok .nx [x0, s, .va (pD r), .va (.int (hf r)), x4, x5, x6] := by
    rw [hh3]
    have i1 : dIx (pD r) (.int 1) = some (.cl (.int r.2)) := ev_ixT1
    have i0 : dIx (pD r) (.int 0) = some (.cl (.int r.1)) := ev_ixT0
    by_cases c1 : r.2 < 0
    · simp [A, i1, c1, p3, -ev_put]
    · by_cases c2 : r.2 = 0
      · by_cases c3 : r.1 < 0
        · simp [A, i1, i0, c2, c3, p3, -ev_put]
        · simp [A, i1, i0, c2, c3, p3, -ev_put]
      · simp [A, i1, c1, c2, p3, -ev_put]
  let B : M Fl := mSeq (mSet 4 (mC (.int 0))) (mFor (mIt (mVar 1)) (gTupD [5, 6]) fb0__law_sorted_round)
  generalize hF : (L.filter (ahd · r)).length = F at *
  have eB : B [x0, s, .va (pD r), .va (.int (hf r)), x4, x5, x6] = .ok .nx [x0, .va (.lst (L.map prD)), .va (pD r), .va (.int (hf r)), .va (.int (F : Nat)), z5, z6] := by
    have p4' : ∀ (z : R) (y1 y2 y3 : Vy.Slot), put 4 z [x0, y1, y2, y3, x4, x5, x6] = some [x0, y1, y2, y3, z.slot, x5, x6] := p4
    generalize L.map prD = LL at *
    rcases hh with rfl | rfl <;> (simp [B, p4', -ev_put]; exact e)
  by_cases c : r ∈ L
  · refine ⟨.va (.lst (L.map prD)), .va (.int (hf r)), .va (.int (F : Nat)), z5, z6, .inl (by unfold insA; rw [if_pos c]), NoIo.va _, NoIo.va _, m5, m6, ?_⟩
    have eC : (mIfS (mBool (mOp dNotInA (mTup (mCons (mVar 2) (mCons (mVar 3) mNil))) (mVar 1))) (mSet 1 (mOp dAdd (mOp dAdd (mSlN 1 mONo (mOSome (mVar 4))) (mLst (mCons (mTup (mCons (mVar 2) (mCons (mVar 3) mNil))) mNil))) (mSlN 1 (mOSome (mVar 4)) mONo))) mNx : M Fl) [x0, .va (.lst (L.map prD)), .va (pD r), .va (.int (hf r)), .va (.int (F : Nat)), z5, z6] = .ok .nx [x0, .va (.lst (L.map prD)), .va (pD r), .va (.int (hf r)), .va (.int (F : Nat)), z5, z6] := by
      simp [pr, ni, c]
    show mSeq A (mSeq (mSet 4 (mC (.int 0))) (mSeq (mFor (mIt (mVar 1)) (gTupD [5, 6]) fb0__law_sorted_round) _)) _ = _
    have eB' : (mSeq (mSet 4 (mC (.int 0))) (mFor (mIt (mVar 1)) (gTupD [5, 6]) fb0__law_sorted_round)) [x0, s, .va (pD r), .va (.int (hf r)), x4, x5, x6] = .ok .nx [x0, .va (.lst (L.map prD)), .va (pD r), .va (.int (hf r)), .va (.int (F : Nat)), z5, z6] := eB
    rw [ev_seq, eA, ev_then, ev_flow, seq_two _ eB']
    exact eC
  · have i1 := cut_to (L.map prD) F (by rw [List.length_map]; exact hk)
    have i2 := cut_from (L.map prD) F (by rw [List.length_map]; exact hk)
    have ip := ins_prs c
    rw [hF] at ip
    have a1 : dAdd (.lst ((L.map prD).take F)) (.lst [prD r]) = some (.fr (.lst ((L.map prD).take F ++ [prD r]))) := by
      have : ((L.map prD).take F).length + [prD r].length ≤ sizeLine := szL (by rw [List.length_take, List.length_map]; simp; omega)
      simp only [dAdd, this, if_true]
    have a2 : dAdd (.lst ((L.map prD).take F ++ [prD r])) (.lst ((L.map prD).drop F)) = some (.fr (.lst ((insA r L).map prD))) := by
      have : ((L.map prD).take F ++ [prD r]).length + ((L.map prD).drop F).length ≤ sizeLine := szL (by rw [List.length_append, List.length_take, List.length_drop, List.length_map]; simp; omega)
      rw [← ip]
      simp only [dAdd, this, if_true]
    refine ⟨.ow (.lst ((insA r L).map prD)), .va (.int (hf r)), .va (.int (F : Nat)), z5, z6, .inr rfl, NoIo.va _, NoIo.va _, m5, m6, ?_⟩
    have eC : (mIfS (mBool (mOp dNotInA (mTup (mCons (mVar 2) (mCons (mVar 3) mNil))) (mVar 1))) (mSet 1 (mOp dAdd (mOp dAdd (mSlN 1 mONo (mOSome (mVar 4))) (mLst (mCons (mTup (mCons (mVar 2) (mCons (mVar 3) mNil))) mNil))) (mSlN 1 (mOSome (mVar 4)) mONo))) mNx : M Fl) [x0, .va (.lst (L.map prD)), .va (pD r), .va (.int (hf r)), .va (.int (F : Nat)), z5, z6] = .ok .nx [x0, .ow (.lst ((insA r L).map prD)), .va (pD r), .va (.int (hf r)), .va (.int (F : Nat)), z5, z6] := by
      generalize (insA r L).map prD = IR at *
      generalize L.map prD = LL at *
      simp [pr, ni, c, dSl, i1, i2, a1, a2, -List.append_assoc]
    show mSeq A (mSeq (mSet 4 (mC (.int 0))) (mSeq (mFor (mIt (mVar 1)) (gTupD [5, 6]) fb0__law_sorted_round) _)) _ = _
    have eB' : (mSeq (mSet 4 (mC (.int 0))) (mFor (mIt (mVar 1)) (gTupD [5, 6]) fb0__law_sorted_round)) [x0, s, .va (pD r), .va (.int (hf r)), x4, x5, x6] = .ok .nx [x0, .va (.lst (L.map prD)), .va (pD r), .va (.int (hf r)), .va (.int (F : Nat)), z5, z6] := eB
    rw [ev_seq, eA, ev_then, ev_flow, seq_two _ eB']
    exact eC
end K87
namespace K87
open PySem PySem.Spec PyProof.Rows L2 Vy Sb Rd
theorem sr_loop (x0 : Vy.Slot) : ∀ (rs L : List P2) (s x2 x3 x4 x5 x6 : Vy.Slot), Hol (.lst (L.map prD)) s → NoIo x2 → NoIo x3 → NoIo x4 → NoIo x5 → NoIo x6 → (∀ q ∈ L, Sm q) → (∀ q ∈ rs, Sm q ∧ q ≠ (0, 0)) → L.length + rs.length ≤ 50000 →
    ∃ s' z2 z3 z4 z5 z6, Hol (.lst ((rs.foldl (fun L x => insA x L) L).map prD)) s' ∧ NoIo z2 ∧ NoIo z3 ∧ forL (gSet 2) fb1__law_sorted_round (rs.map pD) [x0, s, x2, x3, x4, x5, x6] = .ok .nx [x0, s', z2, z3, z4, z5, z6]
  | [], L, s, x2, x3, x4, x5, x6, h, n2, n3, _, _, _, _, _, _ => ⟨s, x2, x3, x4, x5, x6, h, n2, n3, rfl⟩
  | r :: rs, L, s, x2, x3, x4, x5, x6, h, n2, n3, n4, n5, n6, hL, hr, hl => by
    have e0 : gSet 2 (pD r) [x0, s, x2, x3, x4, x5, x6] = some [x0, s, .va (pD r), x3, x4, x5, x6] := put_noio (i := 2) rfl n2
    rw [List.length_cons] at hl
    have k := insA_len r L
    obtain ⟨hr1, hr2⟩ := hr r List.mem_cons_self
    obtain ⟨s1, y3, y4, y5, y6, h1, m3, m4, m5, m6, e1⟩ := sr_step hr2 hL (by omega) x0 s h x3 x4 x5 x6 n3 n4 n5 n6
    obtain ⟨s', z2, z3, z4, z5, z6, h', k2, k3, ih⟩ := sr_loop x0 rs (insA r L) s1 (.va (pD r)) y3 y4 y5 y6 h1 (NoIo.va _) m3 m4 m5 m6 (fun q hq => by
      rcases mem_insA.mp hq with rfl | hq
      · exact hr1
      · exact hL q hq) (fun q hq => hr q (List.mem_cons_of_mem _ hq)) (by omega)
    refine ⟨s', z2, z3, z4, z5, z6, h', k2, k3, ?_⟩
    rw [List.map_cons, ev_forL1 e0, e1, ev_then]
    exact ih
def fstD : D → D
  | .tup [x, _] => x
  | d => d
theorem ev_sr (rs : List P2) (hs : ∀ q ∈ rs, Sm q ∧ q ≠ (0, 0)) (hl : rs.length ≤ 50000) : ∃ ρ', f__law_sorted_round [.va (.lst (rs.map pD))] = .ok (.fr (.lst ((byA rs).map pD))) ρ' := by
  obtain ⟨s', z2, z3, z4, z5, z6, h', n2, n3, e⟩ := sr_loop (.va (.lst (rs.map pD))) rs [] (.ow (.lst [])) .no .no .no .no .no (.inr rfl) NoIo.no NoIo.no NoIo.no NoIo.no NoIo.no (fun _ h => nomatch h) hs (by simpa using hl)
  have h' : Hol (.lst ((byA rs).map prD)) s' := h'
  have bl := byA_len rs
  have e2 := lcL_map (g := gTupD [2, 3]) (is := [2, 3]) (me := ce0__law_sorted_round) (ρ := [.va (.lst (rs.map pD)), .va (.lst ((byA rs).map prD)), z2, z3, z4, z5, z6]) (ρ0 := [.va (.lst (rs.map pD)), .va (.lst ((byA rs).map prD)), .no, .no, z4, z5, z6]) fstD (ds := (byA rs).map prD) (by simp) (by rw [List.length_map]; exact szL (by omega)) fun d hd => by
    obtain ⟨q, hq, rfl⟩ := List.mem_map.mp hd
    exact ⟨[.va (.lst (rs.map pD)), .va (.lst ((byA rs).map prD)), .va (pD q), .va (.int (hf q)), z4, z5, z6], .cl (pD q), [.va (.lst (rs.map pD)), .va (.lst ((byA rs).map prD)), .va (pD q), .va (.int (hf q)), z4, z5, z6], by simp [prD], by simp [ce0__law_sorted_round], rfl, by simp⟩
  have e3 : ((byA rs).map prD).map fstD = (byA rs).map pD := by
    rw [List.map_map]
    rfl
  rw [e3] at e2
  have s1 : st1__law_sorted_round [.va (.lst (rs.map pD)), .ow (.lst []), .no, .no, .no, .no, .no] = .ok .nx [.va (.lst (rs.map pD)), s', z2, z3, z4, z5, z6] := by
    generalize hR : rs.map pD = R at *
    simp [st1__law_sorted_round, e]
  generalize (byA rs).map prD = BR at *
  generalize (byA rs).map pD = BD at *
  generalize rs.map pD = R at *
  have s2 : st2__law_sorted_round [.va (.lst R), s', z2, z3, z4, z5, z6] = .ok (.rt (.fr (.lst BD))) [.va (.lst R), .va (.lst BR), .no, .no, z4, z5, z6] := by
    rcases h' with rfl | rfl <;> simp [st2__law_sorted_round, e2]
  simp [f__law_sorted_round, m__law_sorted_round, bodyF, st0__law_sorted_round, s1, s2]
theorem ev_lb {a b : P2} (ha : Sm a) (m : Nat) (hm : m ≤ 100) : ∃ ρ', f__law_between [.va (pD a), .va (pD b), .va (.int m)] = .ok (.fr (.lst ((byA (wth m a b)).map pD))) ρ' := by
  have er := rng_er m (by omega)
  have big : (2 * m + 1) * (2 * m + 1) ≤ 201 * 201 := Nat.mul_le_mul (by omega) (by omega)
  obtain ⟨z, z2, e⟩ := lb_loop (b := b) ha m hm (rng m) [] .no .no NoIo.no NoIo.no (fun x hx => by have := mem_rng.mp hx; omega) (by rw [List.length_nil, rng_len]; omega)
  have e : forL (gSet 4) fb1__law_between ((rng m).map D.int) [.va (pD a), .va (pD b), .va (.int m), .ow (.lst []), .no, .no] = .ok .nx [.va (pD a), .va (pD b), .va (.int m), .ow (.lst ((wth m a b).map pD)), z, z2] := e
  have wl := wth_len m a b
  have e2 := ev_sr (wth m a b) (fun q hq => by
    obtain ⟨h1, h2, h3, _⟩ := mem_wth.mp hq
    exact ⟨⟨by omega, by omega⟩, g1_ne h3⟩) (by omega)
  have s1 : st1__law_between [.va (pD a), .va (pD b), .va (.int m), .ow (.lst []), .no, .no] = .ok .nx [.va (pD a), .va (pD b), .va (.int m), .ow (.lst ((wth m a b).map pD)), z, z2] := by
    generalize (rng m).map D.int = S at *
    generalize (wth m a b).map pD = W at *
    simp [st1__law_between, er, e]
  generalize (byA (wth m a b)).map pD = BD at *
  generalize (wth m a b).map pD = W at *
  have s2 : st2__law_between [.va (pD a), .va (pD b), .va (.int m), .ow (.lst W), z, z2] = .ok (.rt (.fr (.lst BD))) [.va (pD a), .va (pD b), .va (.int m), .va (.lst W), z, z2] := by
    simp [st2__law_between, ev_liftE e2]
  simp [f__law_between, m__law_between, bodyF, st0__law_between, s1, s2]
end K87
namespace Rd
open Sb
def lx (p q : P2) : Prop := p.1 < q.1 ∨ (p.1 = q.1 ∧ p.2 < q.2)
instance : DecidableRel lx := fun a b => inferInstanceAs (Decidable (_ ∨ _))
def szR (n : Nat) (x : Int) : List P2 := (if n - x.natAbs > 0 then [(x, -((n - x.natAbs : Nat) : Int)), (x, ((n - x.natAbs : Nat) : Int))] else [(x, 0)])
def sized (n : Nat) : List P2 := (rng n).flatMap fun x => (szR n x).filter g1
theorem mem_sized {n : Nat} {q : P2} : q ∈ sized n ↔ sz q = n ∧ g1 q = true := by
  unfold sized
  rw [List.mem_flatMap]
  constructor
  · rintro ⟨x, hx, hq⟩
    have hx := mem_rng.mp hx
    obtain ⟨h1, h2⟩ := List.mem_filter.mp hq
    refine ⟨?_, h2⟩
    unfold szR at h1
    unfold sz
    split at h1
    · simp only [List.mem_cons, List.not_mem_nil, or_false] at h1
      rcases h1 with rfl | rfl <;> (simp only; omega)
    · simp only [List.mem_cons, List.not_mem_nil, or_false] at h1
      subst h1
      simp only
      omega
  · rintro ⟨h1, h2⟩
    unfold sz at h1
    refine ⟨q.1, mem_rng.mpr (by omega), List.mem_filter.mpr ⟨?_, h2⟩⟩
    unfold szR
    split
    · simp only [List.mem_cons, List.not_mem_nil, or_false]
      rcases Int.lt_or_le q.2 0 with h | h
      · left
        ext <;> simp only <;> omega
      · right
        ext <;> simp only <;> omega
    · simp only [List.mem_cons, List.not_mem_nil, or_false]
      ext <;> simp only <;> omega
theorem rng_lt (n : Nat) : (rng n).Pairwise (· < ·) := by
  unfold rng
  rw [List.pairwise_map]
  exact List.pairwise_lt_range.imp fun h => by omega
theorem sized_lx (n : Nat) : (sized n).Pairwise lx := by
  unfold sized
  rw [List.pairwise_flatMap]
  refine ⟨fun x _ => ?_, (rng_lt n).imp fun {x y} h p hp q hq => ?_⟩
  · refine List.Pairwise.filter _ ?_
    unfold szR
    split
    · simp only [List.pairwise_cons, List.mem_cons, List.not_mem_nil, or_false, forall_eq, List.Pairwise.nil, and_true]
      exact ⟨.inr ⟨rfl, by show -((n - x.natAbs : Nat) : Int) < ((n - x.natAbs : Nat) : Int); omega⟩, fun _ h => nomatch h⟩
    · exact List.pairwise_singleton _ _
  · have e : ∀ {x : Int} {p : P2}, p ∈ (szR n x).filter g1 → p.1 = x := fun {x p} hp => by
      have := (List.mem_filter.mp hp).1
      unfold szR at this
      split at this
      · simp only [List.mem_cons, List.not_mem_nil, or_false] at this
        rcases this with rfl | rfl <;> rfl
      · simp only [List.mem_cons, List.not_mem_nil, or_false] at this
        rw [this]
    left
    rw [e hp, e hq]
    exact h
/-! the best -/
def kLt (p q : P2) : Bool := decide (sz p < sz q ∨ (sz p = sz q ∧ lx p q))
def minK (q : P2) (qs : List P2) : P2 := qs.foldl (fun a y => if kLt y a = true then y else a) q
theorem lx_asym {p q : P2} (h : lx p q) : ¬ lx q p := by
  unfold lx at *
  omega
theorem kLt_asym {p q : P2} (h : kLt p q = true) : kLt q p = false := by
  unfold kLt at *
  have h := of_decide_eq_true h
  refine decide_eq_false fun k => ?_
  rcases h with h | ⟨h, h'⟩
  · omega
  · rcases k with k | ⟨k, k'⟩
    · omega
    · exact lx_asym h' k'
theorem kLt_irr (p : P2) : kLt p p = false := by
  unfold kLt lx
  refine decide_eq_false fun k => ?_
  omega
theorem minK_best {b : P2} : ∀ (qs : List P2) (q : P2), (∀ z ∈ q :: qs, z = b ∨ kLt b z = true) → b ∈ q :: qs → minK q qs = b
  | [], q, _, h => by
    rw [List.mem_singleton] at h
    exact h.symm
  | y :: qs, q, hz, h => by
    unfold minK
    rw [List.foldl_cons]
    have hy := hz y (List.mem_cons_of_mem _ List.mem_cons_self)
    have hq := hz q List.mem_cons_self
    have rest : ∀ z ∈ qs, z = b ∨ kLt b z = true := fun z hh => hz z (List.mem_cons_of_mem _ (List.mem_cons_of_mem _ hh))
    by_cases c : kLt y q = true
    · rw [if_pos c]
      refine minK_best qs y (fun z hh => ?_) ?_
      · rcases List.mem_cons.mp hh with rfl | hh
        · exact hy
        · exact rest z hh
      · rcases List.mem_cons.mp h with e | h
        · subst e
          rcases hy with rfl | hy
          · exact List.mem_cons_self
          · rw [kLt_asym hy] at c; cases c
        · exact h
    · rw [if_neg c]
      refine minK_best qs q (fun z hh => ?_) ?_
      · rcases List.mem_cons.mp hh with rfl | hh
        · exact hq
        · exact rest z hh
      · rcases List.mem_cons.mp h with e | h
        · exact e ▸ List.mem_cons_self
        · rcases List.mem_cons.mp h with e | h
          · subst e
            rcases hq with rfl | hq
            · exact List.mem_cons_self
            · exact absurd hq c
          · exact List.mem_cons_of_mem _ h
/-! the first of the first size -/
def smp (a b : P2) (n : Nat) : List P2 := (sized n).filter (cone a b)
theorem mem_smp {a b q : P2} {n : Nat} : q ∈ smp a b n ↔ sz q = n ∧ g1 q = true ∧ cone a b q = true := by
  unfold smp
  rw [List.mem_filter, mem_sized]
  constructor
  · rintro ⟨⟨h1, h2⟩, h3⟩; exact ⟨h1, h2, h3⟩
  · rintro ⟨h1, h2, h3⟩; exact ⟨⟨h1, h2⟩, h3⟩
theorem smp_best {a b s : P2} {n : Nat} {r : List P2} (h : smp a b n = s :: r) (k : ∀ j < n, smp a b j = []) {q : P2} (h1 : g1 q = true) (h2 : cone a b q = true) : q = s ∨ kLt s q = true := by
  have hs : s ∈ smp a b n := by rw [h]; exact List.mem_cons_self
  have es := (mem_smp.mp hs).1
  rcases Nat.lt_trichotomy (sz q) n with z | z | z
  · have : q ∈ smp a b (sz q) := mem_smp.mpr ⟨rfl, h1, h2⟩
    rw [k _ z] at this
    cases this
  · have hq : q ∈ smp a b n := mem_smp.mpr ⟨z, h1, h2⟩
    have o : (smp a b n).Pairwise lx := (sized_lx n).filter _
    rw [h] at hq o
    rcases List.mem_cons.mp hq with e | hq
    · exact .inl e
    · exact .inr (decide_eq_true (.inr ⟨by omega, (List.pairwise_cons.mp o).1 q hq⟩))
  · exact .inr (decide_eq_true (.inl (by omega)))
/-- there is one -/
theorem smp_some {a b : P2} (h : 0 < cr a b) : ∃ n, n ≤ sz a + sz b ∧ smp a b n ≠ [] := by
  have ne : ¬ (a.1 + b.1 = 0 ∧ a.2 + b.2 = 0) := fun z => by
    have e : cr a b = a.1 * (a.2 + b.2) - a.2 * (a.1 + b.1) := by simp only [cr]; grind
    rw [z.1, z.2, Int.mul_zero, Int.mul_zero] at e
    omega
  have gp : 0 < Int.gcd (a.1 + b.1) (a.2 + b.2) := by
    rcases Nat.eq_zero_or_pos (Int.gcd (a.1 + b.1) (a.2 + b.2)) with z | z
    · exact absurd (Int.gcd_eq_zero_iff.mp z) ne
    · exact z
  have gg := Int.gcd_ediv_gcd_ediv_gcd gp
  have dx : ((Int.gcd (a.1 + b.1) (a.2 + b.2) : Nat) : Int) ∣ a.1 + b.1 := Int.gcd_dvd_left _ _
  have dy : ((Int.gcd (a.1 + b.1) (a.2 + b.2) : Nat) : Int) ∣ a.2 + b.2 := Int.gcd_dvd_right _ _
  have g0 : 0 < ((Int.gcd (a.1 + b.1) (a.2 + b.2) : Nat) : Int) := by omega
  generalize ((Int.gcd (a.1 + b.1) (a.2 + b.2) : Nat) : Int) = g at *
  obtain ⟨X, hX⟩ := dx
  obtain ⟨Y, hY⟩ := dy
  have eX : (a.1 + b.1) / g = X := by rw [hX]; exact Int.mul_ediv_cancel_left _ (by omega)
  have eY : (a.2 + b.2) / g = Y := by rw [hY]; exact Int.mul_ediv_cancel_left _ (by omega)
  rw [eX, eY] at gg
  have m1 : X.natAbs ≤ (a.1 + b.1).natAbs := by
    rw [hX, Int.natAbs_mul]
    exact Nat.le_mul_of_pos_left _ (by omega)
  have m2 : Y.natAbs ≤ (a.2 + b.2).natAbs := by
    rw [hY, Int.natAbs_mul]
    exact Nat.le_mul_of_pos_left _ (by omega)
  have c1 : 0 < cr a (X, Y) := by
    have e : cr a b = g * cr a (X, Y) := by
      have : cr a b = a.1 * (a.2 + b.2) - a.2 * (a.1 + b.1) := by simp only [cr]; grind
      rw [this, hX, hY]
      simp only [cr]
      grind
    rw [e] at h
    exact Int.pos_of_mul_pos_right h (by omega)
  have c2 : 0 < cr (X, Y) b := by
    have e : cr a b = g * cr (X, Y) b := by
      have : cr a b = (a.1 + b.1) * b.2 - (a.2 + b.2) * b.1 := by simp only [cr]; grind
      rw [this, hX, hY]
      simp only [cr]
      grind
    rw [e] at h
    exact Int.pos_of_mul_pos_right h (by omega)
  refine ⟨sz (X, Y), ?_, fun z => ?_⟩
  · unfold sz
    simp only
    omega
  · have : (X, Y) ∈ smp a b (sz (X, Y)) := mem_smp.mpr ⟨rfl, decide_eq_true gg, by unfold cone; rw [decide_eq_true c1, decide_eq_true c2]; rfl⟩
    rw [z] at this
    cases this
theorem least {P : Nat → Prop} [DecidablePred P] : ∀ (n : Nat), P n → ∃ m, m ≤ n ∧ P m ∧ ∀ j < m, ¬ P j
  | n, h => by
    by_cases c : ∃ j, j < n ∧ P j
    · obtain ⟨j, hj, pj⟩ := c
      obtain ⟨m, h1, h2, h3⟩ := least j pj
      exact ⟨m, by omega, h2, h3⟩
    · exact ⟨n, Nat.le_refl _, h, fun j hj pj => c ⟨j, hj, pj⟩⟩
theorem smp_least {a b : P2} (h : 0 < cr a b) : ∃ n s r, 1 ≤ n ∧ n ≤ sz a + sz b ∧ smp a b n = s :: r ∧ ∀ j < n, smp a b j = [] := by
  obtain ⟨n, h1, h2⟩ := smp_some h
  obtain ⟨m, k1, k2, k3⟩ := least (P := fun n => smp a b n ≠ []) n h2
  cases hm : smp a b m with
  | nil => exact absurd hm k2
  | cons s r =>
    refine ⟨m, s, r, ?_, by omega, hm, fun j hj => Classical.byContradiction fun z => k3 j hj z⟩
    rcases Nat.eq_zero_or_pos m with z | z
    · have hs : s ∈ smp a b m := by rw [hm]; exact List.mem_cons_self
      obtain ⟨e1, e2, _⟩ := mem_smp.mp hs
      rw [z] at e1
      unfold sz at e1
      exact absurd (Prod.ext (by show s.1 = 0; omega) (by show s.2 = 0; omega)) (g1_ne e2)
    · exact z
end Rd
namespace K87
open PySem PySem.Spec PyProof.Rows L2 Vy Sb Rd
/-! rays of one size -/
theorem sd_ct (x0 x1 x3 : Vy.Slot) (x y : Int) (hy : y.natAbs < 2 ^ 60) : ct0_sized_rays [x0, x1, .va (.int x), x3, .va (.int y)] = .ok (g1 (x, y)) [x0, x1, .va (.int x), x3, .va (.int y)] := by
  have e := ev_gcd x y hy
  have c : decide (((Int.gcd x y : Nat) : Int) = 1) = g1 (x, y) := decide_eq_decide.mpr (by show _ ↔ Int.gcd x y = 1; omega)
  simp [ct0_sized_rays, ev_liftE e, c]
theorem sd_row (n : Nat) (hn : n ≤ 1000) (x : Int) (hx : x.natAbs ≤ n) (L : List P2) (hl : L.length ≤ 90000) (x3 : Vy.Slot) (n3 : NoIo x3) : fb0_sized_rays [.va (.int n), .ow (.lst (L.map pD)), .va (.int x), x3, .no] = .ok .nx [.va (.int n), .ow (.lst ((L ++ (szR n x).filter g1).map pD)), .va (.int x), .va (.int ((n : Int) - (x.natAbs : Int))), .no] := by
  have p3 : ∀ (z : R), put 3 z [.va (.int n), .ow (.lst (L.map pD)), .va (.int x), x3, .no] = some [.va (.int n), .ow (.lst (L.map pD)), .va (.int x), z.slot, .no] := fun z => put_noio (i := 3) rfl n3
  have go : ∀ ys : List Int, (∀ y ∈ ys, y.natAbs < 2 ^ 60) → ys.length ≤ 5 → lcL [4] (gSet 4) ct0_sized_rays ce0_sized_rays (ys.map D.int) [] [.va (.int n), .ow (.lst (L.map pD)), .va (.int x), .va (.int ((n : Int) - (x.natAbs : Int))), .no] = .ok (.fr (.lst (((ys.map fun y => (x, y)).filter g1).map pD))) [.va (.int n), .ow (.lst (L.map pD)), .va (.int x), .va (.int ((n : Int) - (x.natAbs : Int))), .no] := fun ys hy hl => by
    have e := lcL_flt (g := gSet 4) (mt := ct0_sized_rays) (me := ce0_sized_rays) (is := [4]) (ρ0 := [.va (.int n), .ow (.lst (L.map pD)), .va (.int x), .va (.int ((n : Int) - (x.natAbs : Int))), .no]) (fun d => g1 (x, unI d)) (fun d => pD (x, unI d)) (ys.map D.int) [] [.va (.int n), .ow (.lst (L.map pD)), .va (.int x), .va (.int ((n : Int) - (x.natAbs : Int))), .no] (by simp) (by rw [List.length_nil, List.length_map]; exact szL (by omega)) fun d hd => by
      obtain ⟨y, hm, rfl⟩ := List.mem_map.mp hd
      refine ⟨[.va (.int n), .ow (.lst (L.map pD)), .va (.int x), .va (.int ((n : Int) - (x.natAbs : Int))), .va (.int y)], _, by simp, sd_ct _ _ _ x y (hy y hm), fun _ => ⟨.cl (pD (x, y)), [.va (.int n), .ow (.lst (L.map pD)), .va (.int x), .va (.int ((n : Int) - (x.natAbs : Int))), .va (.int y)], by simp [ce0_sized_rays, pD], rfl, by simp⟩, fun _ => by simp⟩
    have e2 : ((ys.map D.int).filter fun d => g1 (x, unI d)).map (fun d => pD (x, unI d)) = ((ys.map fun y => (x, y)).filter g1).map pD := by
      rw [List.filter_map, List.filter_map, List.map_map, List.map_map]
      rfl
    rw [List.nil_append, e2] at e
    exact e
  have fe : ∀ R : List P2, R.length ≤ 5 → fExt (.lst (R.map pD)) (L.map pD) = some (.non, (L ++ R).map pD) := fun R hR => by
    have h : (L.map pD).length + (R.map pD).length ≤ sizeLine := by rw [List.length_map, List.length_map]; exact szL (by omega)
    unfold fExt
    simp only [h, if_true, List.map_append]
  by_cases c : n - x.natAbs > 0
  · have c' : (x.natAbs : Int) < n := by omega
    have z : szR n x = [-((n - x.natAbs : Nat) : Int), ((n - x.natAbs : Nat) : Int)].map fun y => (x, y) := by
      unfold szR
      rw [if_pos c]
      rfl
    have q : ((n - x.natAbs : Nat) : Int) = (n : Int) - (x.natAbs : Int) := by omega
    have e := go [-((n - x.natAbs : Nat) : Int), ((n - x.natAbs : Nat) : Int)] (by
      intro y hy
      simp only [List.mem_cons, List.not_mem_nil, or_false] at hy
      rcases hy with rfl | rfl <;> omega) (by simp)
    rw [← z] at e
    have kl := List.length_filter_le g1 (szR n x)
    have sl : (szR n x).length = 2 := by rw [z]; rfl
    have f := fe ((szR n x).filter g1) (by omega)
    generalize (szR n x).filter g1 = R at *
    rw [q] at e
    simp only [List.map_cons, List.map_nil] at e
    generalize L.map pD = LL at *
    simp [fb0_sized_rays, p3, c', e, f, -ev_put]
  · have c' : ¬ (x.natAbs : Int) < n := by omega
    have z : szR n x = [(0 : Int)].map fun y => (x, y) := by
      unfold szR
      rw [if_neg c]
      rfl
    have e := go [0] (by
      intro y hy
      rw [List.mem_singleton.mp hy]
      decide) (by simp)
    rw [← z] at e
    have kl := List.length_filter_le g1 (szR n x)
    have sl : (szR n x).length = 1 := by rw [z]; rfl
    have f := fe ((szR n x).filter g1) (by omega)
    generalize (szR n x).filter g1 = R at *
    simp only [List.map_cons, List.map_nil] at e
    generalize L.map pD = LL at *
    simp [fb0_sized_rays, p3, c', e, f, -ev_put]
theorem szR_len (n : Nat) (x : Int) : (szR n x).length ≤ 2 := by
  unfold szR
  split <;> simp
theorem sd_loop (n : Nat) (hn : n ≤ 1000) : ∀ (xs : List Int) (L : List P2) (x2 x3 : Vy.Slot), NoIo x2 → NoIo x3 → (∀ x ∈ xs, x.natAbs ≤ n) → L.length + xs.length * 2 ≤ 90000 →
    ∃ z z3, NoIo z3 ∧ forL (gSet 2) fb0_sized_rays (xs.map D.int) [.va (.int n), .ow (.lst (L.map pD)), x2, x3, .no] = .ok .nx [.va (.int n), .ow (.lst ((L ++ xs.flatMap fun x => (szR n x).filter g1).map pD)), z, z3, .no]
  | [], L, x2, x3, _, n3, _, _ => ⟨x2, x3, n3, by rw [List.flatMap_nil, List.append_nil]; rfl⟩
  | x :: xs, L, x2, x3, n2, n3, hx, hl => by
    have e0 : gSet 2 (.int x) [.va (.int n), .ow (.lst (L.map pD)), x2, x3, .no] = some [.va (.int n), .ow (.lst (L.map pD)), .va (.int x), x3, .no] := put_noio (i := 2) rfl n2
    rw [List.length_cons] at hl
    have k1 := List.length_filter_le g1 (szR n x)
    have k2 := szR_len n x
    obtain ⟨z, z3, m3, ih⟩ := sd_loop n hn xs (L ++ (szR n x).filter g1) (.va (.int x)) (.va (.int ((n : Int) - (x.natAbs : Int)))) (NoIo.va _) (NoIo.va _) (fun y hy => hx y (List.mem_cons_of_mem _ hy)) (by rw [List.length_append]; omega)
    refine ⟨z, z3, m3, ?_⟩
    rw [List.map_cons, ev_forL1 e0, sd_row n hn x (hx x List.mem_cons_self) L (by omega) x3 n3, ev_then, List.flatMap_cons, ← List.append_assoc]
    exact ih
theorem ev_sized (n : Nat) (hn : n ≤ 1000) : ∃ ρ', f_sized_rays [.va (.int n)] = .ok (.fr (.lst ((sized n).map pD))) ρ' := by
  have er := rng_er n hn
  obtain ⟨z, z3, m3, e⟩ := sd_loop n hn (rng n) [] .no .no NoIo.no NoIo.no (fun x hx => by have := mem_rng.mp hx; omega) (by rw [List.length_nil, rng_len]; omega)
  have e : forL (gSet 2) fb0_sized_rays ((rng n).map D.int) [.va (.int n), .ow (.lst []), .no, .no, .no] = .ok .nx [.va (.int n), .ow (.lst ((sized n).map pD)), z, z3, .no] := e
  generalize (rng n).map D.int = S at *
  generalize (sized n).map pD = R at *
  simp [f_sized_rays, m_sized_rays, bodyF, st0_sized_rays, st1_sized_rays, st2_sized_rays, er, e]
theorem sized_len (n : Nat) : (sized n).length ≤ (2 * n + 1) * 2 := by
  have go : ∀ xs : List Int, (xs.flatMap fun x => (szR n x).filter g1).length ≤ xs.length * 2 := by
    intro xs
    induction xs with
    | nil => simp
    | cons x xs ih =>
      rw [List.flatMap_cons, List.length_append, List.length_cons]
      have k1 := List.length_filter_le g1 (szR n x)
      have k2 := szR_len n x
      omega
  have := go (rng n)
  rw [rng_len] at this
  exact this
/-! the simplest -/
theorem sp_body {a b : P2} (ha : Ray a) (hb : Ray b) (n : Nat) (hn : n ≤ 500) (s3 : Vy.Slot) (n3 : NoIo s3) : wb0_simplest [.va (pD a), .va (pD b), .va (.int n), s3, .no] = .ok .nx [.va (pD a), .va (pD b), .va (.int ((n + 1 : Nat) : Int)), .ow (.lst ((smp a b (n + 1)).map pD)), .no] := by
  have e := ev_sized (n + 1) (by omega)
  have p3 : ∀ (z : R) (y2 y4 : Vy.Slot), put 3 z [.va (pD a), .va (pD b), y2, s3, y4] = some [.va (pD a), .va (pD b), y2, z.slot, y4] := fun z y2 y4 => put_noio (i := 3) rfl n3
  have p2 : ∀ (z : R), put 2 z [.va (pD a), .va (pD b), .va (.int n), s3, .no] = some [.va (pD a), .va (pD b), z.slot, s3, .no] := fun z => put_noio (i := 2) rfl (NoIo.va _)
  have sl := sized_len (n + 1)
  have e4 := lc_pts (is := [4]) (g := gSet 4) (mt := ct0_simplest) (me := ce0_simplest) (ρ := [.va (pD a), .va (pD b), .va (.int ((n + 1 : Nat) : Int)), s3, .no]) (ρ0 := [.va (pD a), .va (pD b), .va (.int ((n + 1 : Nat) : Int)), s3, .no]) (cone a b) (sized (n + 1)) (by simp) (by omega) fun q hq =>
    ⟨[.va (pD a), .va (pD b), .va (.int ((n + 1 : Nat) : Int)), s3, .va (pD q)], by simp, by
      have hz := (mem_sized.mp hq).1
      unfold Rd.sz at hz
      have t1 := ev_turn a q (wn_sm ha.1).1 (wn_sm ha.1).2
      have t2 := ev_turn q b (by omega) (by omega)
      unfold cone
      by_cases c : 0 < cr a q
      · simp [ct0_simplest, ev_liftE t1, ev_liftE t2, c]
      · simp [ct0_simplest, ev_liftE t1, ev_liftE t2, c], by simp [ce0_simplest], by simp⟩
  have e4 : lcL [4] (gSet 4) ct0_simplest ce0_simplest ((sized (n + 1)).map pD) [] [.va (pD a), .va (pD b), .va (.int ((n + 1 : Nat) : Int)), s3, .no] = .ok (.fr (.lst ((smp a b (n + 1)).map pD))) [.va (pD a), .va (pD b), .va (.int ((n + 1 : Nat) : Int)), s3, .no] := e4
  generalize (sized (n + 1)).map pD = S at *
  generalize (smp a b (n + 1)).map pD = R at *
  have c1 : (n : Int) + 1 = ((n + 1 : Nat) : Int) := by omega
  generalize hN : ((n + 1 : Nat) : Int) = N at *
  simp [wb0_simplest, c1, ev_liftE e, e4, p3, p2, -ev_put]
theorem sp_loop {a b : P2} (ha : Ray a) (hb : Ray b) : ∀ (j n m : Nat) (L : List P2), n + j ≤ 500 → j + 1 ≤ m → (∀ i < j, smp a b (n + i) = []) → smp a b (n + j) ≠ [] → L = smp a b n →
    whileN wt0_simplest wb0_simplest m [.va (pD a), .va (pD b), .va (.int n), .ow (.lst (L.map pD)), .no] = .ok .nx [.va (pD a), .va (pD b), .va (.int ((n + j : Nat) : Int)), .ow (.lst ((smp a b (n + j)).map pD)), .no]
  | 0, n, m, L, hn, hm, _, h, hL => by
    obtain ⟨m, rfl⟩ : ∃ k, m = k + 1 := ⟨m - 1, by omega⟩
    subst hL
    rw [Nat.add_zero] at h ⊢
    have l : ¬ ((smp a b n).map pD).length = 0 := by
      rw [List.length_map]
      intro z
      exact h (List.length_eq_zero_iff.mp z)
    generalize (smp a b n).map pD = S at *
    have l' : ¬ (S.length : Int) = 0 := by omega
    exact ev_while0 (by
      have l2 : S ≠ [] := fun z => l (by rw [z]; rfl)
      simp [wt0_simplest, l2])
  | j + 1, n, m, L, hn, hm, k, h, hL => by
    obtain ⟨m, rfl⟩ : ∃ k, m = k + 1 := ⟨m - 1, by omega⟩
    have k0 := k 0 (by omega)
    rw [Nat.add_zero] at k0
    rw [k0] at hL
    subst hL
    have e1 : wt0_simplest [.va (pD a), .va (pD b), .va (.int n), .ow (.lst (([] : List P2).map pD)), .no] = .ok true [.va (pD a), .va (pD b), .va (.int n), .ow (.lst (([] : List P2).map pD)), .no] := by simp [wt0_simplest]
    have ih := sp_loop ha hb j (n + 1) m (smp a b (n + 1)) (by omega) (by omega) (fun i hi => by have := k (i + 1) (by omega); rw [← this]; congr 1; omega) (by rw [show n + 1 + j = n + (j + 1) by omega]; exact h) rfl
    rw [ev_while1 e1, sp_body ha hb n (by omega) _ (NoIo.ow _), ev_then]
    rw [show n + 1 + j = n + (j + 1) by omega] at ih
    exact ih
theorem ev_simplest {a b : P2} (ha : Ray a) (hb : Ray b) (hc : 0 < cr a b) (hz : Rd.sz a + Rd.sz b ≤ 150) : ∃ n s r, 1 ≤ n ∧ n ≤ Rd.sz a + Rd.sz b ∧ smp a b n = s :: r ∧ (∀ j < n, smp a b j = []) ∧ ∃ ρ', f_simplest [.va (pD a), .va (pD b)] = .ok (.cl (pD s)) ρ' := by
  obtain ⟨n, s, r, h1, h2, h3, h4⟩ := smp_least hc
  refine ⟨n, s, r, h1, h2, h3, h4, ?_⟩
  have e0 := cc_ok ha hb hc
  have z0 : smp a b 0 = [] := h4 0 (by omega)
  have e := sp_loop ha hb n 0 200 [] (by omega) (by omega) (fun i hi => by rw [Nat.zero_add]; exact h4 i hi) (by rw [Nat.zero_add, h3]; simp) z0.symm
  rw [Nat.zero_add, h3] at e
  have e : whileN wt0_simplest wb0_simplest 200 [.va (pD a), .va (pD b), .va (.int 0), .ow (.lst []), .no] = .ok .nx [.va (pD a), .va (pD b), .va (.int (n : Int)), .ow (.lst (pD s :: r.map pD)), .no] := e
  simp [f_simplest, m_simplest, bodyF, st0_simplest, st1_simplest, st2_simplest, st3_simplest, ev_liftE e0, e]
end K87
namespace K87
open PySem PySem.Spec PyProof.Rows L2 Vy Sb Rd
def kD (q : P2) : D := .tup [.int (Rd.sz q : Nat), pD q]
def pyK (q : P2) : PyData := .tuple [.int (Rd.sz q : Nat), pyP q]
theorem py_ks : ∀ P : List P2, pyL (P.map kD) = some (P.map pyK)
  | [] => rfl
  | p :: P => by
    have e : (kD p).py = some (pyK p) := by simp [kD, pyK, D.py, pyL, py_pt]
    simp only [List.map_cons, pyL, e, py_ks P]
theorem ok_ks (P : List P2) : okAll (P.map pyK) = true := by
  unfold okAll
  rw [List.all_eq_true]
  intro p hp
  obtain ⟨n, _, rfl⟩ := List.mem_map.mp hp
  simp only [Bool.and_eq_true, List.all_eq_true, Bool.not_eq_true']
  refine ⟨⟨rfl, by simp [pyK, pyP, PyData.canLay0, PyData.canLayAll0]⟩, fun q hq => ?_⟩
  obtain ⟨m, _, rfl⟩ := List.mem_map.mp hq
  rfl
theorem dp_ks : ∀ P : List P2, PyData.depthAll (P.map pyK) ≤ 2
  | [] => by simp [PyData.depthAll]
  | p :: P => by
    have := dp_ks P
    simp only [List.map_cons, PyData.depthAll, pyK, pyP, PyData.depth]
    omega
theorem lt_ks (p q : P2) : PySem.W.dataLt (pyK p) (pyK q) = kLt p q := by
  unfold pyK
  rw [PySem.W.dataLt_pair rfl rfl]
  simp only [PyData.eqv, eqv_pt, PySem.W.dataLt_int]
  have e : PySem.W.dataLt (pyP p) (pyP q) = decide (lx p q) := PySem.W.dataLt_ii _ _ _ _
  rw [e]
  unfold kLt
  by_cases c : Rd.sz p = Rd.sz q
  · by_cases c2 : p = q
    · subst c2
      have : ¬ lx p p := fun h => lx_asym h h
      simp [this]
    · simp [c, c2]
  · have c3 : ¬ ((Rd.sz p : Nat) : Int) = ((Rd.sz q : Nat) : Int) := by omega
    simp [c, c3]
theorem minD_ks (q : P2) : ∀ qs : List P2, PySem.W.minD (pyK q) (qs.map pyK) = pyK (minK q qs) := by
  intro qs
  unfold PySem.W.minD minK
  induction qs generalizing q with
  | nil => rfl
  | cons k r ih =>
    rw [List.map_cons, List.foldl_cons, List.foldl_cons, ← ih]
    congr 1
    rw [lt_ks]
    split <;> rfl
theorem ev_minK (q : P2) (qs : List P2) : dMinA (.lst (kD q :: qs.map kD)) = some (.cl (kD (minK q qs))) := by
  have e1 : pyL (kD q :: qs.map kD) = some (pyK q :: qs.map pyK) := py_ks (q :: qs)
  have e2 : okAll (pyK q :: qs.map pyK) = true := ok_ks (q :: qs)
  have e3 : PyData.depthAll (pyK q :: qs.map pyK) ≤ 64 := Nat.le_trans (dp_ks (q :: qs)) (by decide)
  show bestG PySem.W.minD (kD q :: qs.map kD) = _
  unfold bestG
  rw [e1]
  simp only [e2, e3, minD_ks, decide_true, Bool.and_self, if_true]
  rfl
/-! the corner is right -/
def Wn4 (p : P2) : Prop := p.1.natAbs ≤ 4 ∧ p.2.natAbs ≤ 4
theorem ni_int (n : Int) (h : n.natAbs < 10 ^ 12) : Ni 40 0 (.int n) := Ni.int h
theorem ni_pt {p : P2} (h : p.1.natAbs < 10 ^ 12 ∧ p.2.natAbs < 10 ^ 12) : Ni 100 1 (pD p) := by
  refine (Ni.tup (w := 40) (k := 0) (xs := [.int p.1, .int p.2]) fun x hx => ?_).up (by simp) (by simp)
  rcases List.mem_cons.mp hx with rfl | hx
  · exact Ni.int h.1
  · rw [List.mem_singleton.mp hx]; exact Ni.int h.2
theorem repr_wth (a b : P2) (m : Nat) (h : m ≤ 10) : ∃ s, dReprS (.tup ((byA (wth m a b)).map pD)) = some (.cl (.str s)) := by
  have l1 := byA_len (wth m a b)
  have l2 := wth_len m a b
  have l3 : (2 * m + 1) * (2 * m + 1) ≤ 21 * 21 := Nat.mul_le_mul (by omega) (by omega)
  refine ((Ni.tup (w := 100) (k := 1) (xs := (byA (wth m a b)).map pD) fun x hx => ?_).up (w' := 441 * 101) (k' := 2) ?_ (by omega)).repr (by decide) (by decide)
  · obtain ⟨q, hq, rfl⟩ := List.mem_map.mp hx
    obtain ⟨h1, h2, _, _⟩ := mem_wth.mp (mem_byA.mp hq)
    exact ni_pt ⟨by omega, by omega⟩
  · rw [List.length_map]
    exact Nat.mul_le_mul_right _ (by omega)
theorem cr_st1 {a b : P2} (ha : Ray a) (hb : Ray b) (hc : 0 < cr a b) (m : Nat) (h1 : 1 ≤ m) (h2 : m ≤ 10) (x0 x4 x5 x6 : Vy.Slot) : st1__law_is_corner_right [x0, .va (pD a), .va (pD b), .va (.int m), x4, x5, x6] = .ok .nx [x0, .va (pD a), .va (pD b), .va (.int m), x4, x5, x6] := by
  have e1 := ev_rw ha hb hc m h1 (by omega)
  have e2 := ev_lb (b := b) (wn_sm ha.1) m (by omega)
  obtain ⟨s, e3⟩ := repr_wth a b m h2
  generalize (byA (wth m a b)).map pD = R at *
  simp [st1__law_is_corner_right, ev_liftE e1, ev_liftE e2, e3]
theorem cr_st2 {a b : P2} (ha : Ray a) (hz : Rd.sz a + Rd.sz b ≤ 50) (x0 x3 x5 x6 : Vy.Slot) : st2__law_is_corner_right [x0, .va (pD a), .va (pD b), x3, .no, x5, x6] = .ok .nx [x0, .va (pD a), .va (pD b), x3, .ow (.lst ((byA (wth (Rd.sz a + Rd.sz b) a b)).map pD)), x5, x6] := by
  have e2 := ev_lb (b := b) (wn_sm ha.1) (Rd.sz a + Rd.sz b) (by omega)
  have c : (((a.1.natAbs : Int) + (b.1.natAbs : Int)) + (a.2.natAbs : Int)) + (b.2.natAbs : Int) = ((Rd.sz a + Rd.sz b : Nat) : Int) := by unfold Rd.sz; omega
  generalize (byA (wth (Rd.sz a + Rd.sz b) a b)).map pD = R at *
  generalize ((Rd.sz a + Rd.sz b : Nat) : Int) = N at *
  obtain ⟨a1, a2⟩ := a
  obtain ⟨b1, b2⟩ := b
  unfold pD at *
  simp only at c e2
  simp [st2__law_is_corner_right, c, ev_liftE e2]
theorem cr_st3 {a b : P2} (ha : Ray a) (hb : Ray b) (hc : 0 < cr a b) (hz : Rd.sz a + Rd.sz b ≤ 50) (x0 x3 : Vy.Slot) : ∃ ρ', st3__law_is_corner_right [x0, .va (pD a), .va (pD b), x3, .ow (.lst ((byA (wth (Rd.sz a + Rd.sz b) a b)).map pD)), .no, .no] = .ok (.rt (.cl (.bl true))) (x0 :: ρ') := by
  obtain ⟨n, s, r, n1, n2, h3, h4, e1⟩ := ev_simplest ha hb hc (by omega)
  have hs : s ∈ smp a b n := by rw [h3]; exact List.mem_cons_self
  obtain ⟨s1, s2, s3⟩ := mem_smp.mp hs
  have hm : s ∈ byA (wth (Rd.sz a + Rd.sz b) a b) := mem_byA.mpr (mem_wth.mpr ⟨by unfold Rd.sz at s1 n2 ⊢; omega, by unfold Rd.sz at s1 n2 ⊢; omega, s2, s3⟩)
  have best : ∀ z ∈ byA (wth (Rd.sz a + Rd.sz b) a b), z = s ∨ kLt s z = true := fun z hz => by
    obtain ⟨_, _, g, c⟩ := mem_wth.mp (mem_byA.mp hz)
    exact smp_best h3 h4 g c
  have l1 := byA_len (wth (Rd.sz a + Rd.sz b) a b)
  have l2 := wth_len (Rd.sz a + Rd.sz b) a b
  have l3 : (2 * (Rd.sz a + Rd.sz b) + 1) * (2 * (Rd.sz a + Rd.sz b) + 1) ≤ 101 * 101 := Nat.mul_le_mul (by omega) (by omega)
  have small : ∀ z ∈ byA (wth (Rd.sz a + Rd.sz b) a b), z.1.natAbs ≤ 50 ∧ z.2.natAbs ≤ 50 := fun z hz2 => by
    obtain ⟨c1, c2, _, _⟩ := mem_wth.mp (mem_byA.mp hz2)
    omega
  have ss := small s hm
  obtain ⟨t, e3⟩ := (ni_pt (p := s) ⟨by omega, by omega⟩).repr (by decide) (by decide)
  generalize byA (wth (Rd.sz a + Rd.sz b) a b) = B at *
  have e2 := lcL_map (g := gTupD [5, 6]) (is := [5, 6]) (me := ce0__law_is_corner_right) (ρ := [x0, .va (pD a), .va (pD b), x3, .va (.lst (B.map pD)), .no, .no]) (ρ0 := [x0, .va (pD a), .va (pD b), x3, .va (.lst (B.map pD)), .no, .no]) (fun d => kD (unp d)) (ds := B.map pD) (by simp) (by rw [List.length_map]; exact szL (by omega)) fun d hd => by
    obtain ⟨q, hq, rfl⟩ := List.mem_map.mp hd
    have cz : (q.1.natAbs : Int) + (q.2.natAbs : Int) = ((Rd.sz q : Nat) : Int) := by unfold Rd.sz; omega
    refine ⟨[x0, .va (pD a), .va (pD b), x3, .va (.lst (B.map pD)), .va (.int q.1), .va (.int q.2)], .cl (kD q), [x0, .va (pD a), .va (pD b), x3, .va (.lst (B.map pD)), .va (.int q.1), .va (.int q.2)], by simp [pD], ?_, rfl, by simp⟩
    simp [ce0__law_is_corner_right, cz, kD, pD]
  have e4 : (B.map pD).map (fun d => kD (unp d)) = B.map kD := by
    rw [List.map_map]
    rfl
  rw [e4] at e2
  cases B with
  | nil => cases hm
  | cons q qs =>
    have m := ev_minK q qs
    rw [minK_best qs q best hm] at m
    have e2 : lcL [5, 6] (gTupD [5, 6]) (pure true) ce0__law_is_corner_right ((q :: qs).map pD) [] [x0, .va (pD a), .va (pD b), x3, .va (.lst ((q :: qs).map pD)), .no, .no] = .ok (.fr (.lst (kD q :: qs.map kD))) [x0, .va (pD a), .va (pD b), x3, .va (.lst ((q :: qs).map pD)), .no, .no] := e2
    generalize (q :: qs).map pD = BD at *
    generalize kD q :: qs.map kD = BK at *
    have ix : dIx (kD s) (.int 1) = some (.cl (pD s)) := ev_ixT1
    refine ⟨[.va (pD a), .va (pD b), x3, .va (.lst BD), .no, .no], ?_⟩
    simp [st3__law_is_corner_right, ev_liftE e1, e3, e2, m, ix]
end K87
namespace Rd
open Sb
def dt (p q : P2) : Int := p.1 * q.1 + p.2 * q.2
def onw (p d : P2) : Bool := !decide (p = d) && (decide (cr p d = 0) && (decide (0 ≤ dt p d) && decide (dt p d ≤ dt d d)))
def onw2 (p d : P2) : Bool := !decide (p = d) && (decide (cr p d = 0) && (decide (0 < dt p d) && decide (dt p p < dt d d)))
theorem sq_nn (a : Int) : 0 ≤ a * a := by
  rcases Int.le_total 0 a with h | h
  · exact Int.mul_nonneg h h
  · exact Int.mul_nonneg_of_nonpos_of_nonpos h h
theorem sq_pos {p : P2} (h : p ≠ (0, 0)) : 0 < dt p p := by
  have n : ¬ (p.1 = 0 ∧ p.2 = 0) := fun z => h (Prod.ext z.1 z.2)
  have a := sq_nn p.1
  have b := sq_nn p.2
  simp only [dt]
  by_cases c : p.1 = 0
  · have c2 : p.2 ≠ 0 := fun z => n ⟨c, z⟩
    have : 0 < p.2 * p.2 := by
      rcases Int.lt_or_lt_of_ne c2 with z | z
      · exact Int.mul_pos_of_neg_of_neg z z
      · exact Int.mul_pos z z
    omega
  · have : 0 < p.1 * p.1 := by
      rcases Int.lt_or_lt_of_ne c with z | z
      · exact Int.mul_pos_of_neg_of_neg z z
      · exact Int.mul_pos z z
    omega
theorem on_same {p d : P2} (hp : p ≠ (0, 0)) (hd : d ≠ (0, 0)) : onw p d = onw2 p d := by
  unfold onw onw2
  by_cases e : p = d
  · simp [e]
  · by_cases c : cr p d = 0
    · have pp := sq_pos hp
      have dd := sq_pos hd
      have l : dt p d * dt p d = dt p p * dt d d := by
        have : dt p d * dt p d + cr p d * cr p d = dt p p * dt d d := by simp only [dt, cr]; grind
        rw [c, Int.mul_zero, Int.add_zero] at this
        exact this
      have far : dt p p + dt d d - 2 * dt p d ≠ 0 := fun z => by
        have s : dt (p.1 - d.1, p.2 - d.2) (p.1 - d.1, p.2 - d.2) = dt p p + dt d d - 2 * dt p d := by simp only [dt]; grind
        have n : ((p.1 - d.1, p.2 - d.2) : P2) ≠ (0, 0) := fun q => e (Prod.ext (by have := congrArg Prod.fst q; simp only at this; omega) (by have := congrArg Prod.snd q; simp only at this; omega))
        have := sq_pos n
        omega
      generalize dt p d = t at *
      generalize dt p p = a at *
      generalize dt d d = b at *
      have k : (0 ≤ t ∧ t ≤ b) ↔ (0 < t ∧ a < b) := by
        have ab : 0 < a * b := Int.mul_pos pp dd
        constructor
        · rintro ⟨h1, h2⟩
          have t0 : t ≠ 0 := fun z => by rw [z, Int.zero_mul] at l; omega
          have h1 : 0 < t := by omega
          refine ⟨h1, ?_⟩
          have m1 : t * t ≤ t * b := Int.mul_le_mul_of_nonneg_left h2 (by omega)
          rw [l, Int.mul_comm t b, Int.mul_comm a b] at m1
          have m2 : a ≤ t := Int.le_of_mul_le_mul_left m1 dd
          rcases Int.lt_or_le a b with z | z
          · exact z
          · exfalso
            have : a = b := by omega
            omega
        · rintro ⟨h1, h2⟩
          refine ⟨by omega, ?_⟩
          rcases Int.lt_or_le b t with z | z
          · exfalso
            have m1 : b * b < t * t := by
              have q1 : b * b ≤ b * t := Int.mul_le_mul_of_nonneg_left (by omega) (by omega)
              have q2 : b * t < t * t := Int.mul_lt_mul_of_pos_right z h1
              omega
            have m2 : a * b < b * b := Int.mul_lt_mul_of_pos_right h2 dd
            omega
          · exact z
      have kb : (decide (0 ≤ t) && decide (t ≤ b)) = (decide (0 < t) && decide (a < b)) := by
        rw [← Bool.decide_and, ← Bool.decide_and]
        exact decide_eq_decide.mpr k
      rw [kb]
    · simp [c]
end Rd
namespace K87
open PySem PySem.Spec PyProof.Rows L2 Vy Sb Rd
theorem ev_aredots (d : D) (h : Pl 2 d) : ∃ ρ', f_are_dots [.va d] = .ok (.cl (.bl (dotsOk d))) ρ' := by
  cases d with
  | tup xs =>
    by_cases c1 : 1 ≤ xs.length
    · by_cases c2 : xs.length ≤ 40
      · have e := lcL_map (g := gSet 1) (is := [1]) (ρ := [.va (.tup xs), .no]) (ρ0 := [.va (.tup xs), .no]) (me := ce0_are_dots) (fun d => .bl (dotOk d)) (ds := xs) rfl (sz (by omega)) fun d hm =>
          ⟨[.va (.tup xs), .va d], .cl (.bl (dotOk d)), [.va (.tup xs), .va d], rfl, by simp [ce0_are_dots, ev_liftE (ev_isdot d (h.kid hm))], rfl, rfl⟩
        have a := all_map dotOk xs
        have l1 : (1 : Int) ≤ xs.length := by omega
        have l2 : (xs.length : Int) ≤ 40 := by omega
        simp [f_are_dots, m_are_dots, bodyF, dIsi, tyN, isiB, e, a, l1, l2, dotsOk, c1, c2]
      · have l1 : (1 : Int) ≤ xs.length := by omega
        have l2 : ¬ (xs.length : Int) ≤ 40 := by omega
        simp [f_are_dots, m_are_dots, bodyF, dIsi, tyN, isiB, l1, l2, dotsOk, c1, c2]
    · have l1 : ¬ (1 : Int) ≤ xs.length := by omega
      simp [f_are_dots, m_are_dots, bodyF, dIsi, tyN, isiB, l1, dotsOk, c1]
  | _ => first | (simp [f_are_dots, m_are_dots, bodyF, dIsi, tyN, isiB, dotsOk]; done) | (exact absurd h (by simp [Pl, tyN]))
theorem pl_pts (ps : List P2) : Pl 2 (.tup (ps.map pD)) := ⟨rfl, fun x hx => by
  obtain ⟨p, _, rfl⟩ := List.mem_map.mp hx
  exact pl_pt p⟩
theorem dots_yes {ps : List P2} (h1 : 1 ≤ ps.length) (h2 : ps.length ≤ 40) (w : ∀ p ∈ ps, Wn p) : ∃ ρ', f_are_dots [.va (.tup (ps.map pD))] = .ok (.cl (.bl true)) ρ' := by
  have a := ev_aredots (.tup (ps.map pD)) (pl_pts ps)
  have e : dotsOk (.tup (ps.map pD)) = true := by
    have al : (ps.map pD).all dotOk = true := by
      rw [List.all_map, List.all_eq_true]
      exact fun p hp => pt_dot (w p hp)
    simp only [dotsOk, List.length_map, al, Bool.and_true, Bool.and_eq_true, decide_eq_true_eq]
    omega
  rw [e] at a
  exact a
theorem ev_onw (p d : P2) (hp : Wn p) (hd : Wn d) : ∃ ρ', f_is_on_way [.va (pD p), .va (pD d)] = .ok (.cl (.bl (onw p d))) ρ' := by
  have t := ev_turn p d (wn_sm hp).1 (wn_sm hp).2
  have ne := ne_pt p d
  have m1 := ev_mulI (a := p.1) (b := d.1) (wn_sm hp).1
  have m2 := ev_mulI (a := p.2) (b := d.2) (wn_sm hp).2
  have m3 := ev_mulI (a := d.1) (b := d.1) (wn_sm hd).1
  have m4 := ev_mulI (a := d.2) (b := d.2) (wn_sm hd).2
  unfold onw dt
  by_cases c : cr p d = 0
  · have s0 : st0_is_on_way [.va (pD p), .va (pD d)] = .ok .nx [.va (pD p), .va (pD d)] := by
      simp [st0_is_on_way, ev_liftE t, c]
    by_cases e : p = d
    · subst e
      simp only [decide_true] at ne
      simp [f_is_on_way, m_is_on_way, bodyF, s0, st1_is_on_way, ne]
    · obtain ⟨p1, p2⟩ := p
      obtain ⟨d1, d2⟩ := d
      unfold pD at *
      simp only at m1 m2 m3 m4 ne
      by_cases c2 : 0 ≤ p1 * d1 + p2 * d2
      · simp [f_is_on_way, m_is_on_way, bodyF, s0, st1_is_on_way, ne, e, c, m1, m2, m3, m4, c2]
      · simp [f_is_on_way, m_is_on_way, bodyF, s0, st1_is_on_way, ne, e, c, m1, m2, m3, m4, c2]
  · simp [f_is_on_way, m_is_on_way, bodyF, st0_is_on_way, ev_liftE t, c]
theorem any_map' (G : D → Bool) (ds : List D) : dAny (.lst (ds.map fun d => .bl (G d))) = some (.cl (.bl (ds.any G))) := by
  have e : (ds.map fun d => D.bl (G d)) = (ds.map G).map D.bl := by rw [List.map_map]; rfl
  unfold dAny
  simp only [e, bsOf_map, Option.map_some]
  congr 3
  rw [List.any_map]
  rfl
def seen1 (ps : List P2) (d : P2) : Bool := !(ps.any fun p => onw p d)
theorem ev_seen {ps : List P2} (h1 : 1 ≤ ps.length) (h2 : ps.length ≤ 40) (w : ∀ p ∈ ps, Wn p) {d : P2} (hd : Wn d) : ∃ ρ', f_is_seen [.va (.tup (ps.map pD)), .va (pD d)] = .ok (.cl (.bl (seen1 ps d))) ρ' := by
  have a := dots_yes h1 h2 w
  have b := ev_isdot (pD d) (pl_pt d)
  rw [pt_dot hd] at b
  have e := lcL_flt (g := gSet 2) (mt := ct0_is_seen) (me := ce0_is_seen) (is := [2]) (ρ0 := [.va (.tup (ps.map pD)), .va (pD d), .no]) (fun x => !decide (unp x = d)) (fun x => .bl (onw (unp x) d)) (ps.map pD) [] [.va (.tup (ps.map pD)), .va (pD d), .no] (by simp) (by rw [List.length_nil, List.length_map]; exact szL (by omega)) fun x hx => by
    obtain ⟨p, hp, rfl⟩ := List.mem_map.mp hx
    have ne := ne_pt p d
    refine ⟨[.va (.tup (ps.map pD)), .va (pD d), .va (pD p)], [.va (.tup (ps.map pD)), .va (pD d), .va (pD p)], by simp, ?_, fun _ => ⟨.cl (.bl (onw p d)), [.va (.tup (ps.map pD)), .va (pD d), .va (pD p)], ?_, rfl, by simp⟩, fun _ => by simp⟩
    · generalize (ps.map pD) = L
      simp [ct0_is_seen, ne, unp_pD]
      exact decide_eq_decide.mpr Iff.rfl
    · simp [ce0_is_seen, ev_liftE (ev_onw p d (w p hp) hd)]
  have an := any_map' (fun x => onw (unp x) d) ((ps.map pD).filter fun x => !decide (unp x = d))
  have s : (((ps.map pD).filter fun x => !decide (unp x = d)).any fun x => onw (unp x) d) = ps.any fun p => onw p d := by
    rw [List.any_filter, List.any_map]
    congr 1
    funext p
    show (!decide (p = d) && onw p d) = onw p d
    unfold onw
    cases decide (p = d) <;> rfl
  rw [s] at an
  rw [List.nil_append] at e
  unfold seen1
  generalize (((ps.map pD).filter fun x => !decide (unp x = d)).map fun x => D.bl (onw (unp x) d)) = B at *
  generalize (ps.map pD) = L at *
  have s2 : st2_is_seen [.va (.tup L), .va (pD d), .no] = .ok (.rt (.cl (.bl (!ps.any fun p => onw p d)))) [.va (.tup L), .va (pD d), .no] := by
    simp [st2_is_seen, e, an]
  simp [f_is_seen, m_is_seen, bodyF, st0_is_seen, st1_is_seen, ev_liftE a, ev_liftE b, s2]
/-! the law's own look -/
theorem pow2 {a : Int} (h : a.natAbs < 2 ^ 64) : dPow (.int a) (.int 2) = some (.cl (.int (a ^ 2))) := by
  have e : (0 : Int) ≤ 2 ∧ (2 : Int) ≤ 1000000 ∧ a.natAbs < 2 ^ 64 := ⟨by decide, by decide, h⟩
  unfold dPow
  simp only [e, and_self, if_true]
  rfl
theorem own_one (x0 : Vy.Slot) (p d : P2) (hp : Wn p) (hd : Wn d) : fb0__law_is_own_seen [x0, .va (pD d), .va (pD p)] = .ok (if onw2 p d = true then .rt (.cl (.bl false)) else .nx) [x0, .va (pD d), .va (pD p)] := by
  have t := ev_lturn p d (wn_sm hp)
  have ne := ne_pt p d
  have m1 := ev_mulI (a := p.1) (b := d.1) (wn_sm hp).1
  have m2 := ev_mulI (a := p.2) (b := d.2) (wn_sm hp).2
  have q1 := pow2 (wn_sm hp).1
  have q2 := pow2 (wn_sm hp).2
  have q3 := pow2 (wn_sm hd).1
  have q4 := pow2 (wn_sm hd).2
  unfold onw2 dt
  by_cases e : p = d
  · subst e
    simp only [decide_true] at ne
    simp [fb0__law_is_own_seen, ne]
  · by_cases c : cr p d = 0
    · obtain ⟨p1, p2⟩ := p
      obtain ⟨d1, d2⟩ := d
      unfold pD at *
      simp only at m1 m2 q1 q2 q3 q4 ne
      have z : ∀ a : Int, a ^ 2 = a * a := fun a => by rw [Int.pow_succ, Int.pow_succ, Int.pow_zero, Int.one_mul]
      rw [z] at q1 q2 q3 q4
      by_cases c2 : 0 < p1 * d1 + p2 * d2
      · by_cases c3 : p1 * p1 + p2 * p2 < d1 * d1 + d2 * d2
        · simp [fb0__law_is_own_seen, ne, e, ev_liftE t, c, m1, m2, c2, q1, q2, q3, q4, c3]
        · simp [fb0__law_is_own_seen, ne, e, ev_liftE t, c, m1, m2, c2, q1, q2, q3, q4, c3]
      · simp [fb0__law_is_own_seen, ne, e, ev_liftE t, c, m1, m2, c2]
    · simp [fb0__law_is_own_seen, ne, e, ev_liftE t, c]
theorem own_loop (x0 : Vy.Slot) (d : P2) (hd : Wn d) : ∀ (ps : List P2) (x2 : Vy.Slot), NoIo x2 → (∀ p ∈ ps, Wn p) → ∃ z, forL (gSet 2) fb0__law_is_own_seen (ps.map pD) [x0, .va (pD d), x2] = .ok (if (ps.any fun p => onw2 p d) = true then .rt (.cl (.bl false)) else .nx) z
  | [], x2, _, _ => ⟨_, rfl⟩
  | p :: ps, x2, n2, w => by
    have e0 : gSet 2 (pD p) [x0, .va (pD d), x2] = some [x0, .va (pD d), .va (pD p)] := put_noio (i := 2) rfl n2
    have e1 := own_one x0 p d (w p List.mem_cons_self) hd
    obtain ⟨z, ih⟩ := own_loop x0 d hd ps (.va (pD p)) (NoIo.va _) fun q hq => w q (List.mem_cons_of_mem _ hq)
    rw [List.map_cons, ev_forL1 e0, e1, List.any_cons]
    cases h : onw2 p d with
    | true => exact ⟨_, rfl⟩
    | false =>
      refine ⟨z, ?_⟩
      rw [Bool.false_or]
      exact ih
theorem ev_own {ps : List P2} (w : ∀ p ∈ ps, Wn p ∧ p ≠ (0, 0)) {d : P2} (hd : Wn d) (hd0 : d ≠ (0, 0)) : ∃ ρ', f__law_is_own_seen [.va (.tup (ps.map pD)), .va (pD d)] = .ok (.cl (.bl (seen1 ps d))) ρ' := by
  obtain ⟨z, e⟩ := own_loop (.va (.tup (ps.map pD))) d hd ps .no NoIo.no fun p hp => (w p hp).1
  have s : (ps.any fun p => onw2 p d) = ps.any fun p => onw p d := by
    rw [Bool.eq_iff_iff, List.any_eq_true, List.any_eq_true]
    constructor
    · rintro ⟨p, hp, h⟩; exact ⟨p, hp, by rw [on_same (w p hp).2 hd0]; exact h⟩
    · rintro ⟨p, hp, h⟩; exact ⟨p, hp, by rw [← on_same (w p hp).2 hd0]; exact h⟩
  rw [s] at e
  unfold seen1
  generalize ps.map pD = L at *
  cases h : (ps.any fun p => onw p d) with
  | true =>
    rw [h] at e
    simp [f__law_is_own_seen, m__law_is_own_seen, bodyF, st0__law_is_own_seen, e]
  | false =>
    rw [h] at e
    simp [f__law_is_own_seen, m__law_is_own_seen, bodyF, st0__law_is_own_seen, st1__law_is_own_seen, e]
end K87
namespace K87
open PySem PySem.Spec PyProof.Rows L2 Vy
theorem ia_NoCorner_NoCorner : isA "NoCorner" "NoCorner" = some true := by decide +kernel
theorem ia_NoCorner_NoDot : isA "NoCorner" "NoDot" = some false := by decide +kernel
theorem ia_NoCorner_NoDots : isA "NoCorner" "NoDots" = some false := by decide +kernel
theorem ia_NoCorner_NoNumber : isA "NoCorner" "NoNumber" = some false := by decide +kernel
theorem ia_NoCorner_NoRay : isA "NoCorner" "NoRay" = some false := by decide +kernel
theorem iv_NoCorner : isAb "NoCorner" "ValueError" = some true := by decide +kernel
theorem cnt_NoCorner : dCnt (.lst [.bl true, .bl false, .bl false, .bl false, .bl false]) [.bl true] = some (.cl (.int 1)) := rfl
theorem idx_NoCorner : dIdx (.lst [.bl true, .bl false, .bl false, .bl false, .bl false]) [.bl true] = some (.cl (.int 0)) := rfl
theorem nix_NoCorner : dIx (.lst [.str "corner", .str "dot", .str "dots", .str "number", .str "ray"]) (.int 0) = some (.cl (.str "corner")) := ev_ixL (n := 0) rfl
theorem told_NoCorner : ∃ ρ', gTold 5 m__law_told (.ex "NoCorner" [] [] []) = .ok (.cl (.str "corner")) ρ' := by
  refine ⟨[], ev_told fun x _ => ?_⟩
  have t : mTry 2 (cat "FanError") (mDrop (mOra x (.ex "NoCorner" [] [] []))) su__law_told [.va x, .va (.str "let"), .no, .no, .no] = .ok .nx [.va x, .va (.str "corner"), .no, .va (.lst [.bl true, .bl false, .bl false, .bl false, .bl false]), .ow (.lst [.str "corner", .str "dot", .str "dots", .str "number", .str "ray"])] := by
    refine ev_tryX (c := "NoCorner") (ns := []) (ds := []) (ρ' := [.va x, .va (.str "let"), .no, .no, .no]) (by simp) (by decide +kernel) (.adr 0) (.inl ⟨rfl, rfl, 0, rfl⟩) fun y hy => ?_
    simp [mSuite, su__law_told, wipeF, dAdd, ia_NoCorner_NoCorner, ia_NoCorner_NoDot, ia_NoCorner_NoDots, ia_NoCorner_NoNumber, ia_NoCorner_NoRay, iv_NoCorner, cnt_NoCorner, idx_NoCorner, nix_NoCorner]
  simp [bodyF, m__law_told, t]
theorem ia_NoDot_NoCorner : isA "NoDot" "NoCorner" = some false := by decide +kernel
theorem ia_NoDot_NoDot : isA "NoDot" "NoDot" = some true := by decide +kernel
theorem ia_NoDot_NoDots : isA "NoDot" "NoDots" = some false := by decide +kernel
theorem ia_NoDot_NoNumber : isA "NoDot" "NoNumber" = some false := by decide +kernel
theorem ia_NoDot_NoRay : isA "NoDot" "NoRay" = some false := by decide +kernel
theorem iv_NoDot : isAb "NoDot" "ValueError" = some true := by decide +kernel
theorem cnt_NoDot : dCnt (.lst [.bl false, .bl true, .bl false, .bl false, .bl false]) [.bl true] = some (.cl (.int 1)) := rfl
theorem idx_NoDot : dIdx (.lst [.bl false, .bl true, .bl false, .bl false, .bl false]) [.bl true] = some (.cl (.int 1)) := rfl
theorem nix_NoDot : dIx (.lst [.str "corner", .str "dot", .str "dots", .str "number", .str "ray"]) (.int 1) = some (.cl (.str "dot")) := ev_ixL (n := 1) rfl
theorem told_NoDot : ∃ ρ', gTold 5 m__law_told (.ex "NoDot" [] [] []) = .ok (.cl (.str "dot")) ρ' := by
  refine ⟨[], ev_told fun x _ => ?_⟩
  have t : mTry 2 (cat "FanError") (mDrop (mOra x (.ex "NoDot" [] [] []))) su__law_told [.va x, .va (.str "let"), .no, .no, .no] = .ok .nx [.va x, .va (.str "dot"), .no, .va (.lst [.bl false, .bl true, .bl false, .bl false, .bl false]), .ow (.lst [.str "corner", .str "dot", .str "dots", .str "number", .str "ray"])] := by
    refine ev_tryX (c := "NoDot") (ns := []) (ds := []) (ρ' := [.va x, .va (.str "let"), .no, .no, .no]) (by simp) (by decide +kernel) (.adr 0) (.inl ⟨rfl, rfl, 0, rfl⟩) fun y hy => ?_
    simp [mSuite, su__law_told, wipeF, dAdd, ia_NoDot_NoCorner, ia_NoDot_NoDot, ia_NoDot_NoDots, ia_NoDot_NoNumber, ia_NoDot_NoRay, iv_NoDot, cnt_NoDot, idx_NoDot, nix_NoDot]
  simp [bodyF, m__law_told, t]
theorem ia_NoDots_NoCorner : isA "NoDots" "NoCorner" = some false := by decide +kernel
theorem ia_NoDots_NoDot : isA "NoDots" "NoDot" = some false := by decide +kernel
theorem ia_NoDots_NoDots : isA "NoDots" "NoDots" = some true := by decide +kernel
theorem ia_NoDots_NoNumber : isA "NoDots" "NoNumber" = some false := by decide +kernel
theorem ia_NoDots_NoRay : isA "NoDots" "NoRay" = some false := by decide +kernel
theorem iv_NoDots : isAb "NoDots" "ValueError" = some true := by decide +kernel
theorem cnt_NoDots : dCnt (.lst [.bl false, .bl false, .bl true, .bl false, .bl false]) [.bl true] = some (.cl (.int 1)) := rfl
theorem idx_NoDots : dIdx (.lst [.bl false, .bl false, .bl true, .bl false, .bl false]) [.bl true] = some (.cl (.int 2)) := rfl
theorem nix_NoDots : dIx (.lst [.str "corner", .str "dot", .str "dots", .str "number", .str "ray"]) (.int 2) = some (.cl (.str "dots")) := ev_ixL (n := 2) rfl
theorem told_NoDots : ∃ ρ', gTold 5 m__law_told (.ex "NoDots" [] [] []) = .ok (.cl (.str "dots")) ρ' := by
  refine ⟨[], ev_told fun x _ => ?_⟩
  have t : mTry 2 (cat "FanError") (mDrop (mOra x (.ex "NoDots" [] [] []))) su__law_told [.va x, .va (.str "let"), .no, .no, .no] = .ok .nx [.va x, .va (.str "dots"), .no, .va (.lst [.bl false, .bl false, .bl true, .bl false, .bl false]), .ow (.lst [.str "corner", .str "dot", .str "dots", .str "number", .str "ray"])] := by
    refine ev_tryX (c := "NoDots") (ns := []) (ds := []) (ρ' := [.va x, .va (.str "let"), .no, .no, .no]) (by simp) (by decide +kernel) (.adr 0) (.inl ⟨rfl, rfl, 0, rfl⟩) fun y hy => ?_
    simp [mSuite, su__law_told, wipeF, dAdd, ia_NoDots_NoCorner, ia_NoDots_NoDot, ia_NoDots_NoDots, ia_NoDots_NoNumber, ia_NoDots_NoRay, iv_NoDots, cnt_NoDots, idx_NoDots, nix_NoDots]
  simp [bodyF, m__law_told, t]
theorem ia_NoNumber_NoCorner : isA "NoNumber" "NoCorner" = some false := by decide +kernel
theorem ia_NoNumber_NoDot : isA "NoNumber" "NoDot" = some false := by decide +kernel
theorem ia_NoNumber_NoDots : isA "NoNumber" "NoDots" = some false := by decide +kernel
theorem ia_NoNumber_NoNumber : isA "NoNumber" "NoNumber" = some true := by decide +kernel
theorem ia_NoNumber_NoRay : isA "NoNumber" "NoRay" = some false := by decide +kernel
theorem iv_NoNumber : isAb "NoNumber" "ValueError" = some true := by decide +kernel
theorem cnt_NoNumber : dCnt (.lst [.bl false, .bl false, .bl false, .bl true, .bl false]) [.bl true] = some (.cl (.int 1)) := rfl
theorem idx_NoNumber : dIdx (.lst [.bl false, .bl false, .bl false, .bl true, .bl false]) [.bl true] = some (.cl (.int 3)) := rfl
theorem nix_NoNumber : dIx (.lst [.str "corner", .str "dot", .str "dots", .str "number", .str "ray"]) (.int 3) = some (.cl (.str "number")) := ev_ixL (n := 3) rfl
theorem told_NoNumber : ∃ ρ', gTold 5 m__law_told (.ex "NoNumber" [] [] []) = .ok (.cl (.str "number")) ρ' := by
  refine ⟨[], ev_told fun x _ => ?_⟩
  have t : mTry 2 (cat "FanError") (mDrop (mOra x (.ex "NoNumber" [] [] []))) su__law_told [.va x, .va (.str "let"), .no, .no, .no] = .ok .nx [.va x, .va (.str "number"), .no, .va (.lst [.bl false, .bl false, .bl false, .bl true, .bl false]), .ow (.lst [.str "corner", .str "dot", .str "dots", .str "number", .str "ray"])] := by
    refine ev_tryX (c := "NoNumber") (ns := []) (ds := []) (ρ' := [.va x, .va (.str "let"), .no, .no, .no]) (by simp) (by decide +kernel) (.adr 0) (.inl ⟨rfl, rfl, 0, rfl⟩) fun y hy => ?_
    simp [mSuite, su__law_told, wipeF, dAdd, ia_NoNumber_NoCorner, ia_NoNumber_NoDot, ia_NoNumber_NoDots, ia_NoNumber_NoNumber, ia_NoNumber_NoRay, iv_NoNumber, cnt_NoNumber, idx_NoNumber, nix_NoNumber]
  simp [bodyF, m__law_told, t]
theorem ia_NoRay_NoCorner : isA "NoRay" "NoCorner" = some false := by decide +kernel
theorem ia_NoRay_NoDot : isA "NoRay" "NoDot" = some false := by decide +kernel
theorem ia_NoRay_NoDots : isA "NoRay" "NoDots" = some false := by decide +kernel
theorem ia_NoRay_NoNumber : isA "NoRay" "NoNumber" = some false := by decide +kernel
theorem ia_NoRay_NoRay : isA "NoRay" "NoRay" = some true := by decide +kernel
theorem iv_NoRay : isAb "NoRay" "ValueError" = some true := by decide +kernel
theorem cnt_NoRay : dCnt (.lst [.bl false, .bl false, .bl false, .bl false, .bl true]) [.bl true] = some (.cl (.int 1)) := rfl
theorem idx_NoRay : dIdx (.lst [.bl false, .bl false, .bl false, .bl false, .bl true]) [.bl true] = some (.cl (.int 4)) := rfl
theorem nix_NoRay : dIx (.lst [.str "corner", .str "dot", .str "dots", .str "number", .str "ray"]) (.int 4) = some (.cl (.str "ray")) := ev_ixL (n := 4) rfl
theorem told_NoRay : ∃ ρ', gTold 5 m__law_told (.ex "NoRay" [] [] []) = .ok (.cl (.str "ray")) ρ' := by
  refine ⟨[], ev_told fun x _ => ?_⟩
  have t : mTry 2 (cat "FanError") (mDrop (mOra x (.ex "NoRay" [] [] []))) su__law_told [.va x, .va (.str "let"), .no, .no, .no] = .ok .nx [.va x, .va (.str "ray"), .no, .va (.lst [.bl false, .bl false, .bl false, .bl false, .bl true]), .ow (.lst [.str "corner", .str "dot", .str "dots", .str "number", .str "ray"])] := by
    refine ev_tryX (c := "NoRay") (ns := []) (ds := []) (ρ' := [.va x, .va (.str "let"), .no, .no, .no]) (by simp) (by decide +kernel) (.adr 0) (.inl ⟨rfl, rfl, 0, rfl⟩) fun y hy => ?_
    simp [mSuite, su__law_told, wipeF, dAdd, ia_NoRay_NoCorner, ia_NoRay_NoDot, ia_NoRay_NoDots, ia_NoRay_NoNumber, ia_NoRay_NoRay, iv_NoRay, cnt_NoRay, idx_NoRay, nix_NoRay]
  simp [bodyF, m__law_told, t]
theorem told_let {r : R} : ∃ ρ', gTold 5 m__law_told (.ok r []) = .ok (.cl (.str "let")) ρ' := by
  refine ⟨[], ev_told fun x _ => ?_⟩
  have t : mTry 2 (cat "FanError") (mDrop (mOra x (.ok r []))) su__law_told [.va x, .va (.str "let"), .no, .no, .no] = .ok .nx [.va x, .va (.str "let"), .no, .no, .no] := ev_tryR (by simp)
  simp [bodyF, m__law_told, t]
end K87
namespace K87
open PySem PySem.Spec PyProof.Rows L2 Vy Sb Rd
theorem deep_at {d : D} (h : Hd d) : ∃ r d', Hd d' ∧ ((∀ n, Pl n r.d) ∧ Ds r.d) ∧ ∀ rest, liftIO 0 f__law_deep [] (.io d :: rest) = .ok r (.io d' :: rest) := by
  obtain ⟨r, d', hd', p, ρ', e, e0⟩ := ev_deep h
  exact ⟨r, d', hd', p, fun rest => ev_liftIO rfl rfl e e0 rfl⟩
theorem nor_pt {p : P2} (h : Wn p) (g : Int.gcd p.1 p.2 ≠ 1) : NoR (pD p) := by
  obtain ⟨ρ', e⟩ := ev_ray h
  rw [decide_eq_false g] at e
  exact ⟨ρ', e⟩
theorem ds_dot {d : D} (h : Ds d) : dotOk d = false := by cases h <;> rfl
theorem ds_dots {d : D} (h : Ds d) : dotsOk d = false := by
  cases h with
  | non => rfl
  | lst _ => rfl
  | tup h => simp [dotsOk, ds_dot h]
theorem ds_int {d : D} (h : Ds d) : isI d = false := by cases h <;> rfl
theorem pl1 {d : D} (h : (tyN d == "?") = false) (k : ∀ x ∈ kids d, (tyN x == "?") = false) : Pl 1 d := ⟨h, k⟩
theorem s9 : 9 ≤ sizeLine := by decide
def nones (t : D) : List D := [.non, .tup [.int 0, .int 0], .tup [.int 2, .int 2], .lst [.int 1, .int 1], .tup [.int 1], .tup [.bl true, .int 1], .int 0, .tup [.int 20000, .int 1], t]
theorem nones_no {t : D} (p : ∀ n, Pl n t) (h : Ds t) : ∀ x ∈ nones t, NoR x := by
  intro x hx
  simp only [nones, List.mem_cons, List.not_mem_nil, or_false] at hx
  rcases hx with rfl | rfl | rfl | rfl | rfl | rfl | rfl | rfl | rfl
  · exact ev_noray (pl1 rfl (fun _ z => nomatch z)) rfl
  · exact nor_pt (p := (0, 0)) ⟨by decide, by decide, by decide, by decide⟩ (by decide)
  · exact nor_pt (p := (2, 2)) ⟨by decide, by decide, by decide, by decide⟩ (by decide)
  · exact ev_noray (pl1 rfl (by simp [kids, tyN])) rfl
  · exact ev_noray (pl1 rfl (by simp [kids, tyN])) rfl
  · exact ev_noray (pl1 rfl (by simp [kids, tyN])) rfl
  · exact ev_noray (pl1 rfl (fun _ z => nomatch z)) rfl
  · exact ev_noray (pl1 rfl (by simp [kids, tyN])) (by simp [dotOk, numOk])
  · exact ev_noray (p 1) (ds_dot h)
def NoN (d : D) : Prop := ∃ ρ', f_is_within [.va d, .va (.int 1), .va (.int 30)] = .ok (.cl (.bl false)) ρ'
def NoDs (d : D) : Prop := ∃ ρ', f_are_dots [.va d] = .ok (.cl (.bl false)) ρ'
def NoDt (d : D) : Prop := ∃ ρ', f_is_dot [.va d] = .ok (.cl (.bl false)) ρ'
theorem non_int (n : Int) (h : ¬ (1 ≤ n ∧ n ≤ 30)) : NoN (.int n) := by
  obtain ⟨ρ', e⟩ := ev_wn n 1 30
  have : (decide (1 ≤ n) && decide (n ≤ 30)) = false := by
    rw [Bool.and_eq_false_iff, decide_eq_false_iff_not, decide_eq_false_iff_not]
    omega
  rw [this] at e
  exact ⟨ρ', e⟩
def nums (t : D) : List D := [.int 0, .int 31, .int (-1), .non, .bl true, .str (PySem.Str.ofString "1"), t]
theorem nums_no {t : D} (p : ∀ n, Pl n t) (h : Ds t) : ∀ x ∈ nums t, NoN x := by
  intro x hx
  simp only [nums, List.mem_cons, List.not_mem_nil, or_false] at hx
  rcases hx with rfl | rfl | rfl | rfl | rfl | rfl | rfl
  · exact non_int _ (by omega)
  · exact non_int _ (by omega)
  · exact non_int _ (by omega)
  · exact ev_wno .non rfl rfl 1 30
  · exact ev_wno (.bl true) rfl rfl 1 30
  · exact ev_wno (.str _) rfl rfl 1 30
  · exact ev_wno _ (p 0) (ds_int h) 1 30
theorem no_dots {d : D} (h : Pl 2 d) (k : dotsOk d = false) : NoDs d := by
  obtain ⟨ρ', e⟩ := ev_aredots d h
  rw [k] at e
  exact ⟨ρ', e⟩
theorem no_dot {d : D} (h : Pl 1 d) (k : dotOk d = false) : NoDt d := by
  obtain ⟨ρ', e⟩ := ev_isdot d h
  rw [k] at e
  exact ⟨ρ', e⟩
theorem pl2 {d : D} (h : (tyN d == "?") = false) (k : ∀ x ∈ kids d, Pl 1 x) : Pl 2 d := ⟨h, k⟩
def d41 : List D := (List.replicate 41 [pD (0, 0)]).flatten
theorem m41 : dMul (.tup [pD (0, 0)]) (.int 41) = some (.cl (.tup d41)) := by
  have e : ([pD (0, 0)] : List D) ≠ [] ∧ (2 : Int) ≤ 41 ∧ (41 : Int) ≤ 1000 ∧ [pD (0, 0)].length ≤ 1000 := ⟨by simp, by decide, by decide, by simp⟩
  unfold dMul
  simp only [e, ne_eq, not_false_eq_true, and_self, if_true]
  rfl
def lots (t : D) : List D := [.non, .tup [], .lst [.tup [.int 0, .int 0]], .tup d41, .tup [.non], .int 0, t]
theorem lots_no {t : D} (p : ∀ n, Pl n t) (h : Ds t) : ∀ x ∈ lots t, NoDs x := by
  intro x hx
  simp only [lots, List.mem_cons, List.not_mem_nil, or_false] at hx
  rcases hx with rfl | rfl | rfl | rfl | rfl | rfl | rfl
  · exact no_dots (pl2 rfl (fun _ z => nomatch z)) rfl
  · exact no_dots (pl2 rfl (fun _ z => nomatch z)) rfl
  · exact no_dots (pl2 rfl (fun x hx => by rw [List.mem_singleton.mp hx]; exact pl_pt (0, 0))) rfl
  · refine no_dots (pl2 rfl fun x hx => ?_) ?_
    · have hx : x ∈ d41 := hx
      obtain ⟨l, hl, hx⟩ := List.mem_flatten.mp hx
      rw [(List.mem_replicate.mp hl).2] at hx
      rw [List.mem_singleton.mp hx]
      exact pl_pt (0, 0)
    · have l : d41.length = 41 := rfl
      simp [dotsOk, l]
  · exact no_dots (pl2 rfl (fun x hx => by rw [List.mem_singleton.mp hx]; exact pl1 rfl (fun _ z => nomatch z))) (by simp [dotsOk, dotOk])
  · exact no_dots (pl2 rfl (fun _ z => nomatch z)) rfl
  · exact no_dots (p 2) (ds_dots h)
def dots1 (t : D) : List D := [.non, .tup [.int 0], .lst [.int 0, .int 0], .tup [.bl true, .int 0], .int 0, .tup [.int 100000, .int 0], t]
theorem dots1_no {t : D} (p : ∀ n, Pl n t) (h : Ds t) : ∀ x ∈ dots1 t, NoDt x := by
  intro x hx
  simp only [dots1, List.mem_cons, List.not_mem_nil, or_false] at hx
  rcases hx with rfl | rfl | rfl | rfl | rfl | rfl | rfl
  · exact no_dot (pl1 rfl (fun _ z => nomatch z)) rfl
  · exact no_dot (pl1 rfl (by simp [kids, tyN])) rfl
  · exact no_dot (pl1 rfl (by simp [kids, tyN])) rfl
  · exact no_dot (pl1 rfl (by simp [kids, tyN])) rfl
  · exact no_dot (pl1 rfl (fun _ z => nomatch z)) rfl
  · exact no_dot (pl1 rfl (by simp [kids, tyN])) (by simp [dotOk, numOk])
  · exact no_dot (p 1) (ds_dot h)
theorem ref0 {d : D} (h : Hd d) (a b : D) : ∃ d' x, Hd d' ∧ NoR x ∧ st0__law_are_refused [.io d, .va a, .va b, .no, .no, .no, .no, .no] = .ok .nx [.io d', .va a, .va b, .va x, .no, .no, .no, .no] := by
  obtain ⟨r, d1, hd1, p, e1⟩ := deep_at h
  obtain ⟨x, d2, hx, hd2, e2⟩ := ev_any hd1 (ds := nones r.d) (by simp [nones]) (by simp [nones])
  refine ⟨d2, x, hd2, nones_no p.1 p.2 x hx, ?_⟩
  unfold nones at e2
  simp [st0__law_are_refused, e1, e2, s9]
theorem ref1 {d : D} (h : Hd d) (a b x : D) : ∃ d' y, Hd d' ∧ NoN y ∧ st1__law_are_refused [.io d, .va a, .va b, .va x, .no, .no, .no, .no] = .ok .nx [.io d', .va a, .va b, .va x, .va y, .no, .no, .no] := by
  obtain ⟨r, d1, hd1, p, e1⟩ := deep_at h
  obtain ⟨y, d2, hx, hd2, e2⟩ := ev_any hd1 (ds := nums r.d) (by simp [nums]) (by simp [nums])
  refine ⟨d2, y, hd2, nums_no p.1 p.2 y hx, ?_⟩
  unfold nums at e2
  simp [st1__law_are_refused, e1, e2]
theorem ref2 {d : D} (h : Hd d) (a b x y : D) : ∃ d' u, Hd d' ∧ NoDs u ∧ st2__law_are_refused [.io d, .va a, .va b, .va x, .va y, .no, .no, .no] = .ok .nx [.io d', .va a, .va b, .va x, .va y, .va u, .no, .no] := by
  obtain ⟨r, d1, hd1, p, e1⟩ := deep_at h
  obtain ⟨u, d2, hx, hd2, e2⟩ := ev_any hd1 (ds := lots r.d) (by simp [lots]) (by simp [lots])
  refine ⟨d2, u, hd2, lots_no p.1 p.2 u hx, ?_⟩
  have m := m41
  unfold pD at m
  simp only at m
  unfold lots at e2
  simp [st2__law_are_refused, e1, e2, m]
theorem p105 : dPow (.int 10) (.int 5) = some (.cl (.int 100000)) := rfl
theorem ref3 {d : D} (h : Hd d) (a b x y u : D) : ∃ d' v, Hd d' ∧ NoDt v ∧ st3__law_are_refused [.io d, .va a, .va b, .va x, .va y, .va u, .no, .no] = .ok .nx [.io d', .va a, .va b, .va x, .va y, .va u, .va v, .no] := by
  obtain ⟨r, d1, hd1, p, e1⟩ := deep_at h
  obtain ⟨v, d2, hx, hd2, e2⟩ := ev_any hd1 (ds := dots1 r.d) (by simp [dots1]) (by simp [dots1])
  refine ⟨d2, v, hd2, dots1_no p.1 p.2 v hx, ?_⟩
  unfold dots1 at e2
  simp [st3__law_are_refused, e1, e2, p105]
/-! what is raised -/
theorem rw_ex {x y n : D} {c : Str} (h : ∃ ρ', f_check_corner [.va x, .va y] = .ex c [] [] ρ') : ∃ ρ', f_rays_within [.va x, .va y, .va n] = .ex c [] [] ρ' := by
  simp [f_rays_within, m_rays_within, st0_rays_within, bodyF, ev_liftX h]
theorem rw_num {a b : P2} (ha : Ray a) (hb : Ray b) (hc : 0 < cr a b) {n : D} (h : NoN n) : ∃ ρ', f_rays_within [.va (pD a), .va (pD b), .va n] = .ex "NoNumber" [] [] ρ' := by
  have e := cc_ok ha hb hc
  simp [f_rays_within, m_rays_within, st0_rays_within, st1_rays_within, bodyF, ev_liftE e, ev_liftE h]
theorem sp_ex {x y : D} {c : Str} (h : ∃ ρ', f_check_corner [.va x, .va y] = .ex c [] [] ρ') : ∃ ρ', f_simplest [.va x, .va y] = .ex c [] [] ρ' := by
  simp [f_simplest, m_simplest, st0_simplest, bodyF, ev_liftX h]
theorem sn_dots {x y : D} (h : NoDs x) : ∃ ρ', f_is_seen [.va x, .va y] = .ex "NoDots" [] [] ρ' := by
  simp [f_is_seen, m_is_seen, st0_is_seen, bodyF, ev_liftE h]
theorem sn_dot {y : D} (h : NoDt y) : ∃ ρ', f_is_seen [.va (.tup [.tup [.int 1, .int 0]]), .va y] = .ex "NoDot" [] [] ρ' := by
  have a : ∃ ρ', f_are_dots [.va (.tup [.tup [.int 1, .int 0]])] = .ok (.cl (.bl true)) ρ' := dots_yes (ps := [(1, 0)]) (by simp) (by simp) (fun p hp => by rw [List.mem_singleton.mp hp]; exact ⟨by decide, by decide, by decide, by decide⟩)
  simp [f_is_seen, m_is_seen, st0_is_seen, st1_is_seen, bodyF, ev_liftE a, ev_liftE h]
theorem add1 (ts : List D) (y : D) (ht : ts.length ≤ 100) : dAdd (.lst ts) (.lst [y]) = some (.fr (.lst (ts ++ [y]))) := by
  have : ts.length + [y].length ≤ sizeLine := szL (by simp; omega)
  simp only [dAdd, this, if_true]
theorem app1 (ts : List D) (y : D) (ht : ts.length ≤ 100) : fApp y ts = some (.non, ts ++ [y]) := by
  have : ts.length < sizeLine := Nat.lt_of_le_of_lt ht (by decide)
  unfold fApp
  rw [if_pos this]
end K87
namespace K87
open PySem PySem.Spec PyProof.Rows L2 Vy Sb Rd
section
variable {a b : P2} (ha : Ray a) (hb : Ray b) (hc : 0 < cr a b) (hn : cr b a ≤ 0) (hz : cr a a ≤ 0) {x y u v : D} (hx : NoR x) (hy : NoN y) (hu : NoDs u) (hv : NoDt v)
include ha hb hc hn hz hx hy hu hv
theorem ref4 (d : D) : st4__law_are_refused [.io d, .va (pD a), .va (pD b), .va x, .va y, .va u, .va v, .no] = .ok .nx [.io d, .va (pD a), .va (pD b), .va x, .va y, .va u, .va v, .ow (.lst [.str "ray"])] := by
  have e := ev_lamX (is := [3, 4]) (n := 5) (m := m__law_told) (xs := [x, y]) (mb := la0__law_are_refused) (ρ := [.io d, .va (pD a), .va (pD b), .va x, .va y, .va u, .va v, .no]) (by simp) ⟨_, by simp [la0__law_are_refused]; exact ev_liftX (rw_ex (cc_no1 hx))⟩ told_NoRay
  simp [st4__law_are_refused, e]
theorem ref5 (d : D) : st5__law_are_refused [.io d, .va (pD a), .va (pD b), .va x, .va y, .va u, .va v, .ow (.lst [.str "ray"])] = .ok .nx [.io d, .va (pD a), .va (pD b), .va x, .va y, .va u, .va v, .ow (.lst [.str "ray", .str "ray"])] := by
  have e := ev_lamX (is := [1, 3, 4]) (n := 5) (m := m__law_told) (xs := [pD a, x, y]) (mb := la1__law_are_refused) (ρ := [.io d, .va (pD a), .va (pD b), .va x, .va y, .va u, .va v, .ow (.lst [.str "ray"])]) (by simp) ⟨_, by simp [la1__law_are_refused]; exact ev_liftX (rw_ex (cc_no2 ha hx))⟩ told_NoRay
  have q := app1 [.str "ray"] (.str "ray") (by simp)
  simp only [List.cons_append, List.nil_append] at q
  simp [st5__law_are_refused, e, q]
theorem ref6 (d : D) : st6__law_are_refused [.io d, .va (pD a), .va (pD b), .va x, .va y, .va u, .va v, .ow (.lst [.str "ray", .str "ray"])] = .ok .nx [.io d, .va (pD a), .va (pD b), .va x, .va y, .va u, .va v, .ow (.lst [.str "ray", .str "ray", .str "corner"])] := by
  have e := ev_lamX (is := [2, 1, 4]) (n := 5) (m := m__law_told) (xs := [pD b, pD a, y]) (mb := la2__law_are_refused) (ρ := [.io d, .va (pD a), .va (pD b), .va x, .va y, .va u, .va v, .va (.lst [.str "ray", .str "ray"])]) (by simp) ⟨_, by simp [la2__law_are_refused]; exact ev_liftX (rw_ex (cc_flat hb ha hn))⟩ told_NoCorner
  have q := add1 [.str "ray", .str "ray"] (.str "corner") (by simp)
  simp only [List.cons_append, List.nil_append] at q
  simp [st6__law_are_refused, e, q]
theorem ref7 (d : D) : st7__law_are_refused [.io d, .va (pD a), .va (pD b), .va x, .va y, .va u, .va v, .ow (.lst [.str "ray", .str "ray", .str "corner"])] = .ok .nx [.io d, .va (pD a), .va (pD b), .va x, .va y, .va u, .va v, .ow (.lst [.str "ray", .str "ray", .str "corner", .str "number"])] := by
  have e := ev_lamX (is := [1, 2, 4]) (n := 5) (m := m__law_told) (xs := [pD a, pD b, y]) (mb := la3__law_are_refused) (ρ := [.io d, .va (pD a), .va (pD b), .va x, .va y, .va u, .va v, .ow (.lst [.str "ray", .str "ray", .str "corner"])]) (by simp) ⟨_, by simp [la3__law_are_refused]; exact ev_liftX (rw_num ha hb hc hy)⟩ told_NoNumber
  have q := app1 [.str "ray", .str "ray", .str "corner"] (.str "number") (by simp)
  simp only [List.cons_append, List.nil_append] at q
  simp [st7__law_are_refused, e, q]
theorem ref8 (d : D) : st8__law_are_refused [.io d, .va (pD a), .va (pD b), .va x, .va y, .va u, .va v, .ow (.lst [.str "ray", .str "ray", .str "corner", .str "number"])] = .ok .nx [.io d, .va (pD a), .va (pD b), .va x, .va y, .va u, .va v, .ow (.lst [.str "ray", .str "ray", .str "corner", .str "number", .str "ray"])] := by
  have e := ev_lamX (is := [3]) (n := 5) (m := m__law_told) (xs := [x]) (mb := la4__law_are_refused) (ρ := [.io d, .va (pD a), .va (pD b), .va x, .va y, .va u, .va v, .va (.lst [.str "ray", .str "ray", .str "corner", .str "number"])]) (by simp) ⟨_, by simp [la4__law_are_refused]; exact ev_liftX (sp_ex (cc_no1 hx))⟩ told_NoRay
  have q := add1 [.str "ray", .str "ray", .str "corner", .str "number"] (.str "ray") (by simp)
  simp only [List.cons_append, List.nil_append] at q
  simp [st8__law_are_refused, e, q]
theorem ref9 (d : D) : st9__law_are_refused [.io d, .va (pD a), .va (pD b), .va x, .va y, .va u, .va v, .ow (.lst [.str "ray", .str "ray", .str "corner", .str "number", .str "ray"])] = .ok .nx [.io d, .va (pD a), .va (pD b), .va x, .va y, .va u, .va v, .ow (.lst [.str "ray", .str "ray", .str "corner", .str "number", .str "ray", .str "ray"])] := by
  have e := ev_lamX (is := [1, 3]) (n := 5) (m := m__law_told) (xs := [pD a, x]) (mb := la5__law_are_refused) (ρ := [.io d, .va (pD a), .va (pD b), .va x, .va y, .va u, .va v, .ow (.lst [.str "ray", .str "ray", .str "corner", .str "number", .str "ray"])]) (by simp) ⟨_, by simp [la5__law_are_refused]; exact ev_liftX (sp_ex (cc_no2 ha hx))⟩ told_NoRay
  have q := app1 [.str "ray", .str "ray", .str "corner", .str "number", .str "ray"] (.str "ray") (by simp)
  simp only [List.cons_append, List.nil_append] at q
  simp [st9__law_are_refused, e, q]
theorem ref10 (d : D) : st10__law_are_refused [.io d, .va (pD a), .va (pD b), .va x, .va y, .va u, .va v, .ow (.lst [.str "ray", .str "ray", .str "corner", .str "number", .str "ray", .str "ray"])] = .ok .nx [.io d, .va (pD a), .va (pD b), .va x, .va y, .va u, .va v, .ow (.lst [.str "ray", .str "ray", .str "corner", .str "number", .str "ray", .str "ray", .str "corner"])] := by
  have e := ev_lamX (is := [2, 1]) (n := 5) (m := m__law_told) (xs := [pD b, pD a]) (mb := la6__law_are_refused) (ρ := [.io d, .va (pD a), .va (pD b), .va x, .va y, .va u, .va v, .va (.lst [.str "ray", .str "ray", .str "corner", .str "number", .str "ray", .str "ray"])]) (by simp) ⟨_, by simp [la6__law_are_refused]; exact ev_liftX (sp_ex (cc_flat hb ha hn))⟩ told_NoCorner
  have q := add1 [.str "ray", .str "ray", .str "corner", .str "number", .str "ray", .str "ray"] (.str "corner") (by simp)
  simp only [List.cons_append, List.nil_append] at q
  simp [st10__law_are_refused, e, q]
theorem ref11 (d : D) : st11__law_are_refused [.io d, .va (pD a), .va (pD b), .va x, .va y, .va u, .va v, .ow (.lst [.str "ray", .str "ray", .str "corner", .str "number", .str "ray", .str "ray", .str "corner"])] = .ok .nx [.io d, .va (pD a), .va (pD b), .va x, .va y, .va u, .va v, .ow (.lst [.str "ray", .str "ray", .str "corner", .str "number", .str "ray", .str "ray", .str "corner", .str "corner"])] := by
  have e := ev_lamX (is := [1]) (n := 5) (m := m__law_told) (xs := [pD a]) (mb := la7__law_are_refused) (ρ := [.io d, .va (pD a), .va (pD b), .va x, .va y, .va u, .va v, .ow (.lst [.str "ray", .str "ray", .str "corner", .str "number", .str "ray", .str "ray", .str "corner"])]) (by simp) ⟨_, by simp [la7__law_are_refused]; exact ev_liftX (sp_ex (cc_flat ha ha hz))⟩ told_NoCorner
  have q := app1 [.str "ray", .str "ray", .str "corner", .str "number", .str "ray", .str "ray", .str "corner"] (.str "corner") (by simp)
  simp only [List.cons_append, List.nil_append] at q
  simp [st11__law_are_refused, e, q]
theorem ref12 (d : D) : st12__law_are_refused [.io d, .va (pD a), .va (pD b), .va x, .va y, .va u, .va v, .ow (.lst [.str "ray", .str "ray", .str "corner", .str "number", .str "ray", .str "ray", .str "corner", .str "corner"])] = .ok .nx [.io d, .va (pD a), .va (pD b), .va x, .va y, .va u, .va v, .ow (.lst [.str "ray", .str "ray", .str "corner", .str "number", .str "ray", .str "ray", .str "corner", .str "corner", .str "dots"])] := by
  have e := ev_lamX (is := [5, 6]) (n := 5) (m := m__law_told) (xs := [u, v]) (mb := la8__law_are_refused) (ρ := [.io d, .va (pD a), .va (pD b), .va x, .va y, .va u, .va v, .va (.lst [.str "ray", .str "ray", .str "corner", .str "number", .str "ray", .str "ray", .str "corner", .str "corner"])]) (by simp) ⟨_, by simp [la8__law_are_refused]; exact ev_liftX (sn_dots hu)⟩ told_NoDots
  have q := add1 [.str "ray", .str "ray", .str "corner", .str "number", .str "ray", .str "ray", .str "corner", .str "corner"] (.str "dots") (by simp)
  simp only [List.cons_append, List.nil_append] at q
  simp [st12__law_are_refused, e, q]
theorem ref13 (d : D) : st13__law_are_refused [.io d, .va (pD a), .va (pD b), .va x, .va y, .va u, .va v, .ow (.lst [.str "ray", .str "ray", .str "corner", .str "number", .str "ray", .str "ray", .str "corner", .str "corner", .str "dots"])] = .ok .nx [.io d, .va (pD a), .va (pD b), .va x, .va y, .va u, .va v, .ow (.lst [.str "ray", .str "ray", .str "corner", .str "number", .str "ray", .str "ray", .str "corner", .str "corner", .str "dots", .str "dot"])] := by
  have e := ev_lamX (is := [6]) (n := 5) (m := m__law_told) (xs := [v]) (mb := la9__law_are_refused) (ρ := [.io d, .va (pD a), .va (pD b), .va x, .va y, .va u, .va v, .ow (.lst [.str "ray", .str "ray", .str "corner", .str "number", .str "ray", .str "ray", .str "corner", .str "corner", .str "dots"])]) (by simp) ⟨_, by simp [la9__law_are_refused]; exact ev_liftX (sn_dot hv)⟩ told_NoDot
  have q := app1 [.str "ray", .str "ray", .str "corner", .str "number", .str "ray", .str "ray", .str "corner", .str "corner", .str "dots"] (.str "dot") (by simp)
  simp only [List.cons_append, List.nil_append] at q
  simp [st13__law_are_refused, e, q]
theorem ref14 (d : D) : st14__law_are_refused [.io d, .va (pD a), .va (pD b), .va x, .va y, .va u, .va v, .ow (.lst [.str "ray", .str "ray", .str "corner", .str "number", .str "ray", .str "ray", .str "corner", .str "corner", .str "dots", .str "dot"])] = .ok (.rt (.cl (.bl true))) [.io d, .va (pD a), .va (pD b), .va x, .va y, .va u, .va v, .va (.lst [.str "ray", .str "ray", .str "corner", .str "number", .str "ray", .str "ray", .str "corner", .str "corner", .str "dots", .str "dot"])] := by
  have q := eq_strs ["ray", "ray", "corner", "number", "ray", "ray", "corner", "corner", "dots", "dot"] (by decide +kernel)
  have s10 : 10 ≤ sizeLine := by decide
  simp only [List.map_cons, List.map_nil] at q
  simp [st14__law_are_refused, q, s10]
end
theorem ev_refused {d : D} (h : Hd d) {a b : P2} (ha : Ray a) (hb : Ray b) (hc : 0 < cr a b) : ∃ d', Hd d' ∧ ∃ ρ', f__law_are_refused [.io d, .va (pD a), .va (pD b)] = .ok (.cl (.bl true)) ρ' ∧ ρ'[0]? = some (.io d') := by
  have hn : cr b a ≤ 0 := by
    have : cr b a = - cr a b := by simp only [cr]; grind
    omega
  have hz : cr a a ≤ 0 := by
    have : cr a a = 0 := by simp only [cr]; grind
    omega
  obtain ⟨d1, x, hd1, hx, e0⟩ := ref0 h (pD a) (pD b)
  obtain ⟨d2, y, hd2, hy, e1⟩ := ref1 hd1 (pD a) (pD b) x
  obtain ⟨d3, u, hd3, hu, e2⟩ := ref2 hd2 (pD a) (pD b) x y
  obtain ⟨d4, v, hd4, hv, e3⟩ := ref3 hd3 (pD a) (pD b) x y u
  have e4 := ref4 ha hb hc hn hz hx hy hu hv d4
  have e5 := ref5 ha hb hc hn hz hx hy hu hv d4
  have e6 := ref6 ha hb hc hn hz hx hy hu hv d4
  have e7 := ref7 ha hb hc hn hz hx hy hu hv d4
  have e8 := ref8 ha hb hc hn hz hx hy hu hv d4
  have e9 := ref9 ha hb hc hn hz hx hy hu hv d4
  have e10 := ref10 ha hb hc hn hz hx hy hu hv d4
  have e11 := ref11 ha hb hc hn hz hx hy hu hv d4
  have e12 := ref12 ha hb hc hn hz hx hy hu hv d4
  have e13 := ref13 ha hb hc hn hz hx hy hu hv d4
  have e14 := ref14 ha hb hc hn hz hx hy hu hv d4
  refine ⟨d4, hd4, [.io d4, .va (pD a), .va (pD b), .va x, .va y, .va u, .va v, .va (.lst [.str "ray", .str "ray", .str "corner", .str "number", .str "ray", .str "ray", .str "corner", .str "corner", .str "dots", .str "dot"])], ?_, rfl⟩
  simp [f__law_are_refused, m__law_are_refused, bodyF, e0, e1, e2, e3, e4, e5, e6, e7, e8, e9, e10, e11, e12, e13, e14]
end K87
namespace K87
open PySem PySem.Spec PyProof.Rows L2 Vy Sb Rd
def Cn (p : P2) : Prop := Ray p ∧ p.1.natAbs ≤ 4 ∧ p.2.natAbs ≤ 4
theorem cn10 : Cn (1, 0) := ⟨⟨⟨by decide, by decide, by decide, by decide⟩, by decide⟩, by decide, by decide⟩
theorem ry_one {d : D} (h : Hd d) (x2 x3 : Vy.Slot) (n3 : NoIo x3) : ∃ d' p, Hd d' ∧ p.1.natAbs ≤ 4 ∧ p.2.natAbs ≤ 4 ∧ fb0__law_ray [.io d, .va (.int 4), x2, x3] = .ok (if Int.gcd p.1 p.2 = 1 then .rt (.cl (pD p)) else .nx) [.io d', .va (.int 4), x2, .va (pD p)] := by
  obtain ⟨x, d1, hd1, x0, x1, e1⟩ := draw_at h (m := 9) (by omega) (by omega)
  obtain ⟨y, d2, hd2, y0, y1, e2⟩ := draw_at hd1 (m := 9) (by omega) (by omega)
  refine ⟨d2, (x - 4, y - 4), hd2, by show (x - 4).natAbs ≤ 4; omega, by show (y - 4).natAbs ≤ 4; omega, ?_⟩
  have p3 : ∀ (z : R) (s : Vy.Slot), put 3 z [s, .va (.int 4), x2, x3] = some [s, .va (.int 4), x2, z.slot] := fun z s => put_noio (i := 3) rfl n3
  have g := ev_lgcd (x - 4) (y - 4) (by omega)
  have m8 : dMul (.int 2) (.int 4) = some (.cl (.int 8)) := rfl
  have c : ((Int.gcd (x - 4) (y - 4) : Nat) : Int) = 1 ↔ Int.gcd (x - 4) (y - 4) = 1 := by omega
  by_cases c1 : Int.gcd (x - 4) (y - 4) = 1
  · simp [fb0__law_ray, m8, e1, e2, p3, -ev_put, pD, ev_liftE g, c, c1]
  · simp [fb0__law_ray, m8, e1, e2, p3, -ev_put, pD, ev_liftE g, c, c1]
theorem ry_loop : ∀ (n : Nat) (k : Int) (d : D) (x2 x3 : Vy.Slot), Hd d → NoIo x2 → NoIo x3 → ∃ d' z2 z3, Hd d' ∧ ((∃ p, Cn p ∧ forL (gSet 2) fb0__law_ray (rangeD k n) [.io d, .va (.int 4), x2, x3] = .ok (.rt (.cl (pD p))) [.io d', .va (.int 4), z2, z3]) ∨ forL (gSet 2) fb0__law_ray (rangeD k n) [.io d, .va (.int 4), x2, x3] = .ok .nx [.io d', .va (.int 4), z2, z3])
  | 0, k, d, x2, x3, h, _, _ => ⟨d, x2, x3, h, .inr rfl⟩
  | n + 1, k, d, x2, x3, h, n2, n3 => by
    have e0 : gSet 2 (.int k) [.io d, .va (.int 4), x2, x3] = some [.io d, .va (.int 4), .va (.int k), x3] := put_noio (i := 2) rfl n2
    obtain ⟨d1, p, hd1, q1, q2, e1⟩ := ry_one h (.va (.int k)) x3 n3
    rw [range_cons, ev_forL1 e0, e1]
    by_cases c : Int.gcd p.1 p.2 = 1
    · rw [if_pos c]
      exact ⟨d1, .va (.int k), .va (pD p), hd1, .inl ⟨p, ⟨⟨⟨by omega, by omega, by omega, by omega⟩, c⟩, q1, q2⟩, rfl⟩⟩
    · rw [if_neg c]
      exact ry_loop n (k + 1) d1 (.va (.int k)) (.va (pD p)) hd1 (NoIo.va _) (NoIo.va _)
theorem ev_lray {d : D} (h : Hd d) : ∃ d' p, Hd d' ∧ Cn p ∧ ∃ ρ', f__law_ray [.io d, .va (.int 4)] = .ok (.cl (pD p)) ρ' ∧ ρ'[0]? = some (.io d') := by
  obtain ⟨d', z2, z3, hd', e⟩ := ry_loop 8 0 d .no .no h NoIo.no NoIo.no
  have er : range1 (.int 8) = some (rangeD 0 8) := rfl
  generalize rangeD 0 8 = L at *
  rcases e with ⟨p, hp, e⟩ | e
  · refine ⟨d', p, hd', hp, [.io d', .va (.int 4), z2, z3], ?_, rfl⟩
    simp [f__law_ray, m__law_ray, bodyF, st0__law_ray, er, e]
  · refine ⟨d', (1, 0), hd', cn10, [.io d', .va (.int 4), z2, z3], ?_, rfl⟩
    simp [f__law_ray, m__law_ray, bodyF, st0__law_ray, er, e, st1__law_ray, pD]
theorem ev_cright {d : D} (h : Hd d) {a b : P2} (ha : Cn a) (hb : Cn b) (hc : 0 < cr a b) : ∃ d', Hd d' ∧ ∃ ρ', f__law_is_corner_right [.io d, .va (pD a), .va (pD b)] = .ok (.cl (.bl true)) ρ' ∧ ρ'[0]? = some (.io d') := by
  obtain ⟨x, d1, hd1, x0, x1, e1⟩ := draw_at h (m := 7) (by omega) (by omega)
  obtain ⟨m, hm⟩ := Int.eq_ofNat_of_zero_le (show 0 ≤ 1 + x by omega)
  have z : Rd.sz a + Rd.sz b ≤ 50 := by
    obtain ⟨_, a1, a2⟩ := ha
    obtain ⟨_, b1, b2⟩ := hb
    unfold Rd.sz
    omega
  have s0 : st0__law_is_corner_right [.io d, .va (pD a), .va (pD b), .no, .no, .no, .no] = .ok .nx [.io d1, .va (pD a), .va (pD b), .va (.int m), .no, .no, .no] := by
    simp [st0__law_is_corner_right, e1, hm]
  have s1 := cr_st1 ha.1 hb.1 hc m (by omega) (by omega) (.io d1) .no .no .no
  have s2 := cr_st2 (b := b) ha.1 z (.io d1) (.va (.int m)) .no .no
  obtain ⟨ρ', s3⟩ := cr_st3 ha.1 hb.1 hc z (.io d1) (.va (.int m))
  refine ⟨d1, hd1, .io d1 :: ρ', ?_, rfl⟩
  generalize (byA (wth (Rd.sz a + Rd.sz b) a b)).map pD = B at *
  simp [f__law_is_corner_right, m__law_is_corner_right, bodyF, s0, s1, s2, s3]
end K87
namespace K87
open PySem PySem.Spec PyProof.Rows L2 Vy Sb Rd
noncomputable def lw0 : M Fl := (mPar 3 4 (mCons (mCallIO 1 f__law_ray (mCons (mC (.int 4)) mNil)) (mCons (mCallIO 1 f__law_ray (mCons (mC (.int 4)) mNil)) mNil)))
noncomputable def lw1 : M Fl := (mUnpack (gTupD [3, 4]) (mIf (mBool (mOp dGtA (mCall f__law_turn (mCons (mVar 3) (mCons (mVar 4) mNil))) (mC (.int 0)))) (mTup (mCons (mVar 3) (mCons (mVar 4) mNil))) (mTup (mCons (mVar 4) (mCons (mVar 3) mNil)))))
noncomputable def lw2 : M Fl := (mIfS (mAndT (mBool (mOp dGtA (mCall f__law_turn (mCons (mVar 3) (mCons (mVar 4) mNil))) (mC (.int 0)))) (mNotT (mBool (mCallIO 1 f__law_is_corner_right (mCons (mVar 3) (mCons (mVar 4) mNil)))))) (mRet (mC (.bl false))) mNx)
noncomputable def lw3 : M Fl := (mIfS (mAndT (mBool (mOp dGtA (mCall f__law_turn (mCons (mVar 3) (mCons (mVar 4) mNil))) (mC (.int 0)))) (mNotT (mBool (mCallIO 1 f__law_are_refused (mCons (mVar 3) (mCons (mVar 4) mNil)))))) (mRet (mC (.bl false))) mNx)
noncomputable def lw4 : M Fl := (mSet 5 (mRd dTup (mVal (mLc [7] (mRange1 (mOp dAdd (mC (.int 1)) (mCallIO 1 f__law_draw (mCons (mC (.int 9)) mNil)))) (gSet 7) (pure true) ce1_law))))
noncomputable def lw5 : M Fl := (mSet 5 (mOp dAdd (mRd dTup (mVal (mLc [6] (mIt (mVar 5)) (gSet 6) ct0_law ce0_law))) (mTup (mCons (mTup (mCons (mC (.int 1)) (mCons (mC (.int 0)) mNil))) mNil))))
noncomputable def lw6 : M Fl := (mFor (mIt (mVar 5)) (gSet 6) fb0_law)
theorem lw_eq : fb1_law = mSeq lw0 (mSeq lw1 (mSeq lw2 (mSeq lw3 (mSeq lw4 (mSeq lw5 lw6))))) := rfl
theorem ray1 {d : D} (h : Hd d) : ∃ (d' : D) (p : P2), Hd d' ∧ Cn p ∧ ∀ x0 x2 x3 x4 x5 x6 x7 : Vy.Slot, liftIO 1 f__law_ray [.va (.int 4)] [x0, .ow d, x2, x3, x4, x5, x6, x7] = .ok (.cl (pD p)) [x0, .ow d', x2, x3, x4, x5, x6, x7] := by
  obtain ⟨d', p, hd', hp, ρ', e, e0⟩ := ev_lray h
  exact ⟨d', p, hd', hp, fun _ _ _ _ _ _ _ => ev_liftIO (i := 1) rfl rfl e e0 rfl⟩
theorem draw1 {d : D} (h : Hd d) {m : Int} (h0 : 0 < m) (h1 : m < 1073741824) : ∃ r d', Hd d' ∧ 0 ≤ r ∧ r < m ∧ ∀ x0 x2 x3 x4 x5 x6 x7 : Vy.Slot, liftIO 1 f__law_draw [.va (.int m)] [x0, .ow d, x2, x3, x4, x5, x6, x7] = .ok (.cl (.int r)) [x0, .ow d', x2, x3, x4, x5, x6, x7] := by
  obtain ⟨r, d', hd', r0, r1, ρ', e, e0⟩ := ev_draw h h0 h1
  exact ⟨r, d', hd', r0, r1, fun _ _ _ _ _ _ _ => ev_liftIO (i := 1) rfl rfl e e0 rfl⟩
theorem lap0 {d : D} (h : Hd d) (x0 x2 x3 x4 x5 x6 x7 : Vy.Slot) (n3 : NoIo x3) (n4 : NoIo x4) : ∃ d' a b, Hd d' ∧ Cn a ∧ Cn b ∧ mSeq lw0 lw1 [x0, .ow d, x2, x3, x4, x5, x6, x7] = .ok .nx [x0, .ow d', x2, .va (pD a), .va (pD b), x5, x6, x7] := by
  obtain ⟨d1, a, hd1, ha, e1⟩ := ray1 h
  obtain ⟨d2, b, hd2, hb, e2⟩ := ray1 hd1
  have p4 : ∀ (z : R) (s : Vy.Slot), put 4 z [x0, s, x2, x3, x4, x5, x6, x7] = some [x0, s, x2, x3, z.slot, x5, x6, x7] := fun z s => put_noio (i := 4) rfl n4
  have p3 : ∀ (z : R) (s t : Vy.Slot), put 3 z [x0, s, x2, x3, t, x5, x6, x7] = some [x0, s, x2, z.slot, t, x5, x6, x7] := fun z s t => put_noio (i := 3) rfl n3
  have s0 : lw0 [x0, .ow d, x2, x3, x4, x5, x6, x7] = .ok .nx [x0, .ow d2, x2, .va (pD a), .va (pD b), x5, x6, x7] := by
    simp [lw0, e1, e2, p3, p4, -ev_put]
  have t := ev_lturn a b (wn_sm ha.1.1)
  by_cases c : 0 < cr a b
  · exact ⟨d2, a, b, hd2, ha, hb, by simp [s0, lw1, ev_liftE t, c]⟩
  · exact ⟨d2, b, a, hd2, hb, ha, by simp [s0, lw1, ev_liftE t, c]⟩
theorem lap2 {d : D} (h : Hd d) {a b : P2} (ha : Cn a) (hb : Cn b) (x0 x2 x5 x6 x7 : Vy.Slot) : ∃ d', Hd d' ∧ mSeq lw2 lw3 [x0, .ow d, x2, .va (pD a), .va (pD b), x5, x6, x7] = .ok .nx [x0, .ow d', x2, .va (pD a), .va (pD b), x5, x6, x7] := by
  have t := ev_lturn a b (wn_sm ha.1.1)
  by_cases c : 0 < cr a b
  · obtain ⟨d1, hd1, ρ1, e1, f1⟩ := ev_cright h ha hb c
    obtain ⟨d2, hd2, ρ2, e2, f2⟩ := ev_refused hd1 ha.1 hb.1 c
    have g1 : liftIO 1 f__law_is_corner_right [.va (pD a), .va (pD b)] [x0, .ow d, x2, .va (pD a), .va (pD b), x5, x6, x7] = .ok (.cl (.bl true)) [x0, .ow d1, x2, .va (pD a), .va (pD b), x5, x6, x7] := ev_liftIO (i := 1) rfl rfl e1 f1 rfl
    have g2 : liftIO 1 f__law_are_refused [.va (pD a), .va (pD b)] [x0, .ow d1, x2, .va (pD a), .va (pD b), x5, x6, x7] = .ok (.cl (.bl true)) [x0, .ow d2, x2, .va (pD a), .va (pD b), x5, x6, x7] := ev_liftIO (i := 1) rfl rfl e2 f2 rfl
    exact ⟨d2, hd2, by simp [lw2, lw3, ev_liftE t, c, g1, g2]⟩
  · exact ⟨d, h, by simp [lw2, lw3, ev_liftE t, c]⟩
def Tn (p : P2) : Prop := p.1.natAbs ≤ 4 ∧ p.2.natAbs ≤ 4
theorem hd_pt {d : D} (h : Hd d) (x0 x2 x3 x4 x5 x6 x7 : Vy.Slot) : ∃ p d', Hd d' ∧ Tn p ∧ ce1_law [x0, .ow d, x2, x3, x4, x5, x6, x7] = .ok (.cl (pD p)) [x0, .ow d', x2, x3, x4, x5, x6, x7] := by
  obtain ⟨x, d1, hd1, y0, y1, e1⟩ := draw1 h (m := 9) (by omega) (by omega)
  obtain ⟨y, d2, hd2, z0, z1, e2⟩ := draw1 hd1 (m := 9) (by omega) (by omega)
  refine ⟨(x - 4, y - 4), d2, hd2, ⟨by show (x - 4).natAbs ≤ 4; omega, by show (y - 4).natAbs ≤ 4; omega⟩, ?_⟩
  simp [ce1_law, e1, e2, pD]
theorem dots_lc (x0 x2 x3 x4 x5 x6 : Vy.Slot) : ∀ (n : Nat) (k : Int) (d : D) (ps : List P2) (x7 : Vy.Slot), Hd d → ps.length + n ≤ 100 → (∀ p ∈ ps, Tn p) → NoIo x7 → ∃ (d' : D) (qs : List P2), Hd d' ∧ qs.length = ps.length + n ∧ (∀ p ∈ qs, Tn p) ∧
    lcL [7] (gSet 7) (pure true) ce1_law (rangeD k n) (ps.map pD) [x0, .ow d, x2, x3, x4, x5, x6, x7] = .ok (.fr (.lst (qs.map pD))) [x0, .ow d', x2, x3, x4, x5, x6, .no]
  | 0, _, d, ps, x7, h, _, hp, _ => ⟨d, ps, h, rfl, hp, rfl⟩
  | n + 1, k, d, ps, x7, h, hl, hp, n7 => by
    obtain ⟨p, d1, hd1, pt, e1⟩ := hd_pt h x0 x2 x3 x4 x5 x6 (.va (.int k))
    obtain ⟨d', qs, c1, c2, c3, e2⟩ := dots_lc x0 x2 x3 x4 x5 x6 n (k + 1) d1 (ps ++ [p]) (.va (.int k)) hd1 (by rw [List.length_append, List.length_singleton]; omega) (fun q hq => by
      rcases List.mem_append.mp hq with hq | hq
      · exact hp q hq
      · rw [List.mem_singleton.mp hq]; exact pt) (NoIo.va _)
    refine ⟨d', qs, c1, by rw [c2, List.length_append, List.length_singleton]; omega, c3, ?_⟩
    rw [range_cons, lcL_step (ρ1 := [x0, .ow d, x2, x3, x4, x5, x6, .va (.int k)]) rfl e1 (Nat.lt_of_lt_of_le (by rw [List.length_map]; omega : (ps.map pD).length < 200) (by decide))]
    rw [List.map_append] at e2
    exact e2
theorem lap4 {d : D} (h : Hd d) (x0 x2 x3 x4 x5 x6 x7 : Vy.Slot) (n5 : NoIo x5) (n7 : NoIo x7) : ∃ (d' : D) (qs : List P2), Hd d' ∧ qs.length ≤ 9 ∧ (∀ p ∈ qs, Tn p) ∧ lw4 [x0, .ow d, x2, x3, x4, x5, x6, x7] = .ok .nx [x0, .ow d', x2, x3, x4, .va (.tup (qs.map pD)), x6, .no] := by
  obtain ⟨r, d1, hd1, r0, r1, e1⟩ := draw1 h (m := 9) (by omega) (by omega)
  obtain ⟨m, hm⟩ := Int.eq_ofNat_of_zero_le (show 0 ≤ 1 + r by omega)
  obtain ⟨d2, qs, hd2, hl, hq, e2⟩ := dots_lc x0 x2 x3 x4 x5 x6 m 0 d1 [] x7 hd1 (by rw [List.length_nil]; omega) (fun _ z => nomatch z) n7
  rw [List.length_nil, Nat.zero_add] at hl
  have er := range_er m (by omega)
  have p5 : ∀ (z : R) (s : Vy.Slot), put 5 z [x0, s, x2, x3, x4, x5, x6, .no] = some [x0, s, x2, x3, x4, z.slot, x6, .no] := fun z s => put_noio (i := 5) rfl n5
  refine ⟨d2, qs, hd2, by omega, hq, ?_⟩
  rw [List.map_nil] at e2
  generalize rangeD 0 m = L at *
  generalize qs.map pD = Q at *
  simp [lw4, e1, hm, er, e2, p5, -ev_put]
theorem lap5 (x0 x1 x2 x3 x4 x6 : Vy.Slot) (n6 : NoIo x6) {qs : List P2} (hl : qs.length ≤ 9) : lw5 [x0, x1, x2, x3, x4, .va (.tup (qs.map pD)), x6, .no] = .ok .nx [x0, x1, x2, x3, x4, .va (.tup (((qs.filter fun q => !decide (q = (0, 0))) ++ [(1, 0)]).map pD)), .no, .no] := by
  have e := lc_pts (is := [6]) (g := gSet 6) (mt := ct0_law) (me := ce0_law) (ρ := [x0, x1, x2, x3, x4, .va (.tup (qs.map pD)), x6, .no]) (ρ0 := [x0, x1, x2, x3, x4, .va (.tup (qs.map pD)), .no, .no]) (fun q => !decide (q = (0, 0))) qs (by simp) (by omega) fun q _ => by
    have ne := ne_pt q (0, 0)
    refine ⟨[x0, x1, x2, x3, x4, .va (.tup (qs.map pD)), .va (pD q), .no], by simp, ?_, by simp [ce0_law], by simp⟩
    generalize qs.map pD = Q
    have t0 : D.tup [.int 0, .int 0] = pD (0, 0) := rfl
    simp [ct0_law, t0, ne]
    try exact decide_eq_decide.mpr Iff.rfl
  have kl := List.length_filter_le (fun q => !decide (q = ((0 : Int), (0 : Int)))) qs
  have ad : dAdd (.tup ((qs.filter fun q => !decide (q = (0, 0))).map pD)) (.tup [pD (1, 0)]) = some (.cl (.tup (((qs.filter fun q => !decide (q = (0, 0))) ++ [(1, 0)]).map pD))) := by
    have : ((qs.filter fun q => !decide (q = ((0 : Int), (0 : Int)))).map pD).length + [pD (1, 0)].length ≤ sizeLine := szL (by rw [List.length_map]; simp; omega)
    simp only [dAdd, this, if_true, List.map_append, List.map_cons, List.map_nil]
  have t1 : D.tup [.int 1, .int 0] = pD (1, 0) := rfl
  generalize ((qs.filter fun q => !decide (q = (0, 0))) ++ [(1, 0)]).map pD = S at *
  generalize (qs.filter fun q => !decide (q = (0, 0))).map pD = F at *
  generalize qs.map pD = Q at *
  simp [lw5, e, t1, ad]
theorem repr_bl (b : Bool) : ∃ s, dReprS (.bl b) = some (.cl (.str s)) :=
  Ni.repr (w := 0) (k := 0) ⟨pl_leaf rfl rfl, .bool b, by simp [D.pyS], rfl, rfl, by simp [PyData.weight], by simp [PyData.depth]⟩ (by decide) (by decide)
theorem tn_wn {p : P2} (h : Tn p) : Wn p := by
  obtain ⟨_, _⟩ := h
  exact ⟨by omega, by omega, by omega, by omega⟩
theorem lap6_one {ps : List P2} (h1 : 1 ≤ ps.length) (h2 : ps.length ≤ 40) (w : ∀ p ∈ ps, Tn p ∧ p ≠ (0, 0)) {q : P2} (hq : q ∈ ps) (x0 x1 x2 x3 x4 x7 : Vy.Slot) : fb0_law [x0, x1, x2, x3, x4, .va (.tup (ps.map pD)), .va (pD q), x7] = .ok .nx [x0, x1, x2, x3, x4, .va (.tup (ps.map pD)), .va (pD q), x7] := by
  have e1 := ev_seen h1 h2 (fun p hp => tn_wn (w p hp).1) (tn_wn (w q hq).1)
  have e2 := ev_own (fun p hp => ⟨tn_wn (w p hp).1, (w p hp).2⟩) (tn_wn (w q hq).1) (w q hq).2
  obtain ⟨s, e3⟩ := repr_bl (seen1 ps q)
  generalize ps.map pD = Q at *
  simp [fb0_law, ev_liftE e1, ev_liftE e2, e3]
theorem lap6_loop {ps : List P2} (h1 : 1 ≤ ps.length) (h2 : ps.length ≤ 40) (w : ∀ p ∈ ps, Tn p ∧ p ≠ (0, 0)) (x0 x1 x2 x3 x4 x7 : Vy.Slot) : ∀ (qs : List P2) (x6 : Vy.Slot), NoIo x6 → (∀ q ∈ qs, q ∈ ps) → ∃ z, NoIo z ∧ forL (gSet 6) fb0_law (qs.map pD) [x0, x1, x2, x3, x4, .va (.tup (ps.map pD)), x6, x7] = .ok .nx [x0, x1, x2, x3, x4, .va (.tup (ps.map pD)), z, x7]
  | [], x6, n6, _ => ⟨x6, n6, rfl⟩
  | q :: qs, x6, n6, hq => by
    have e0 : gSet 6 (pD q) [x0, x1, x2, x3, x4, .va (.tup (ps.map pD)), x6, x7] = some [x0, x1, x2, x3, x4, .va (.tup (ps.map pD)), .va (pD q), x7] := put_noio (i := 6) rfl n6
    obtain ⟨z, nz, ih⟩ := lap6_loop h1 h2 w x0 x1 x2 x3 x4 x7 qs (.va (pD q)) (NoIo.va _) fun r hr => hq r (List.mem_cons_of_mem _ hr)
    exact ⟨z, nz, by rw [List.map_cons, ev_forL1 e0, lap6_one h1 h2 w (hq q List.mem_cons_self), ev_then]; exact ih⟩
theorem lap {d : D} (h : Hd d) (x0 x2 x3 x4 x5 x6 x7 : Vy.Slot) (n3 : NoIo x3) (n4 : NoIo x4) (n5 : NoIo x5) (n6 : NoIo x6) (n7 : NoIo x7) : ∃ d' z3 z4 z5 z6, Hd d' ∧ NoIo z3 ∧ NoIo z4 ∧ NoIo z5 ∧ NoIo z6 ∧ fb1_law [x0, .ow d, x2, x3, x4, x5, x6, x7] = .ok .nx [x0, .ow d', x2, z3, z4, z5, z6, .no] := by
  obtain ⟨d1, a, b, hd1, ha, hb, e0⟩ := lap0 h x0 x2 x3 x4 x5 x6 x7 n3 n4
  obtain ⟨d2, hd2, e2⟩ := lap2 hd1 ha hb x0 x2 x5 x6 x7
  obtain ⟨d3, qs, hd3, hl, hq, e4⟩ := lap4 hd2 x0 x2 (.va (pD a)) (.va (pD b)) x5 x6 x7 n5 n7
  have e5 := lap5 x0 (.ow d3) x2 (.va (pD a)) (.va (pD b)) x6 n6 (qs := qs) hl
  have kl := List.length_filter_le (fun q => !decide (q = ((0 : Int), (0 : Int)))) qs
  have w : ∀ p ∈ (qs.filter fun q => !decide (q = ((0 : Int), (0 : Int)))) ++ [(1, 0)], Tn p ∧ p ≠ (0, 0) := fun p hp => by
    rcases List.mem_append.mp hp with hp | hp
    · obtain ⟨h1, h2⟩ := List.mem_filter.mp hp
      exact ⟨hq p h1, by simpa using h2⟩
    · rw [List.mem_singleton.mp hp]
      exact ⟨⟨by decide, by decide⟩, by decide⟩
  have lp : ((qs.filter fun q => !decide (q = ((0 : Int), (0 : Int)))) ++ [(1, 0)]).length ≤ 10 := by rw [List.length_append, List.length_singleton]; omega
  have lp1 : 1 ≤ ((qs.filter fun q => !decide (q = ((0 : Int), (0 : Int)))) ++ [(1, 0)]).length := by rw [List.length_append, List.length_singleton]; omega
  generalize (qs.filter fun q => !decide (q = ((0 : Int), (0 : Int)))) ++ [(1, 0)] = ps at *
  obtain ⟨z, nz, e6⟩ := lap6_loop lp1 (by omega) w x0 (.ow d3) x2 (.va (pD a)) (.va (pD b)) .no ps .no NoIo.no (fun _ hq => hq)
  have s6 : lw6 [x0, .ow d3, x2, .va (pD a), .va (pD b), .va (.tup (ps.map pD)), .no, .no] = .ok .nx [x0, .ow d3, x2, .va (pD a), .va (pD b), .va (.tup (ps.map pD)), z, .no] := by
    generalize ps.map pD = Q at *
    simp [lw6, e6]
  refine ⟨d3, .va (pD a), .va (pD b), .va (.tup (ps.map pD)), z, hd3, NoIo.va _, NoIo.va _, NoIo.va _, nz, ?_⟩
  rw [lw_eq, seq_two _ e0, seq_two _ e2, ev_seq, e4, ev_then, ev_flow, ev_seq, e5, ev_then, ev_flow]
  exact s6
theorem laps (x0 : Vy.Slot) : ∀ (n : Nat) (k : Int) (x2 x3 x4 x5 x6 x7 : Vy.Slot) (d : D), NoIo x2 → NoIo x3 → NoIo x4 → NoIo x5 → NoIo x6 → NoIo x7 → Hd d → ∃ ρ', forL (gSet 2) fb1_law (rangeD k n) [x0, .ow d, x2, x3, x4, x5, x6, x7] = .ok .nx ρ'
  | 0, _, _, _, _, _, _, _, _, _, _, _, _, _, _, _ => ⟨_, rfl⟩
  | n + 1, k, x2, x3, x4, x5, x6, x7, d, n2, n3, n4, n5, n6, n7, h => by
    have e0 : gSet 2 (.int k) [x0, .ow d, x2, x3, x4, x5, x6, x7] = some [x0, .ow d, .va (.int k), x3, x4, x5, x6, x7] := put_noio (i := 2) rfl n2
    obtain ⟨d', z3, z4, z5, z6, hd', m3, m4, m5, m6, e1⟩ := lap h x0 (.va (.int k)) x3 x4 x5 x6 x7 n3 n4 n5 n6 n7
    obtain ⟨ρ', e2⟩ := laps x0 n (k + 1) (.va (.int k)) z3 z4 z5 z6 .no d' (NoIo.va _) m3 m4 m5 m6 NoIo.no hd'
    exact ⟨ρ', by rw [range_cons, ev_forL1 e0, e1, ev_then]; exact e2⟩
theorem r10 : Ray (1, 0) := cn10.1
theorem r01 : Ray (0, 1) := ⟨⟨by decide, by decide, by decide, by decide⟩, by decide⟩
theorem r12 : Ray (1, 2) := ⟨⟨by decide, by decide, by decide, by decide⟩, by decide⟩
theorem c_rw : byA (wth 2 (1, 0) (0, 1)) = [(2, 1), (1, 1), (1, 2)] := by decide +kernel
theorem c_sp : ∃ ρ', f_simplest [.va (pD (1, 0)), .va (pD (1, 2))] = .ok (.cl (pD (1, 1))) ρ' := by
  obtain ⟨n, s, r, n1, n2, h3, h4, e⟩ := ev_simplest r10 r12 (by decide) (by decide)
  have b : s = (1, 1) := by
    have hs : s ∈ smp (1, 0) (1, 2) n := by rw [h3]; exact List.mem_cons_self
    have z := smp_best h3 h4 (q := (1, 1)) (by decide) (by decide)
    rcases z with z | z
    · exact z.symm
    · exfalso
      obtain ⟨k1, k2, k3⟩ := mem_smp.mp hs
      have e1 : smp (1, 0) (1, 2) 0 = [] := by decide +kernel
      have e2 : smp (1, 0) (1, 2) 1 = [] := by decide +kernel
      have e3 : smp (1, 0) (1, 2) 2 = [(1, 1)] := by decide +kernel
      have hn : n = 2 := by
        rcases Nat.lt_trichotomy n 2 with q | q | q
        · have : n = 0 ∨ n = 1 := by omega
          rcases this with rfl | rfl
          · rw [e1] at h3; cases h3
          · rw [e2] at h3; cases h3
        · exact q
        · have := h4 2 q
          rw [e3] at this
          cases this
      subst hn
      rw [e3] at h3
      cases h3
      exact absurd z (by decide)
  rw [b] at e
  exact e
theorem c_seen (p : P2) (hp : p = (1, 1) ∨ p = (2, 2)) : ∃ ρ', f_is_seen [.va (.tup [pD (1, 1), pD (2, 2)]), .va (pD p)] = .ok (.cl (.bl (seen1 [(1, 1), (2, 2)] p))) ρ' := by
  refine ev_seen (ps := [(1, 1), (2, 2)]) (by simp) (by simp) (fun q hq => ?_) ?_
  · simp only [List.mem_cons, List.not_mem_nil, or_false] at hq
    rcases hq with rfl | rfl <;> exact ⟨by decide, by decide, by decide, by decide⟩
  · rcases hp with rfl | rfl <;> exact ⟨by decide, by decide, by decide, by decide⟩
theorem holds_all (ns : List Int) (h : ns.length ≤ 63) : ∃ r ρ', f_law [.va (.scr ns)] = .ok r ρ' ∧ r.d = .bl true := by
  obtain ⟨ds, hd, ρ0, e0⟩ := ev_hand ns h
  obtain ⟨ρ', el⟩ := laps (.va (.scr ns)) 5 0 .no .no .no .no .no .no (.lst ds) NoIo.no NoIo.no NoIo.no NoIo.no NoIo.no NoIo.no hd
  have er : range1 (.int 5) = some (rangeD 0 5) := rfl
  generalize rangeD 0 5 = L at er el
  have s0 : st0_law [.va (.scr ns), .no, .no, .no, .no, .no, .no, .no] = .ok .nx [.va (.scr ns), .ow (.lst ds), .no, .no, .no, .no, .no, .no] := by simp [st0_law, ev_lift e0]
  have a1 : ∃ ρ', f_rays_within [.va (pD (1, 0)), .va (pD (0, 1)), .va (.int 2)] = .ok (.cl (.tup ((byA (wth 2 (1, 0) (0, 1))).map pD))) ρ' := ev_rw r10 r01 (by decide) 2 (by decide) (by decide)
  rw [c_rw] at a1
  have a2 := c_sp
  have a3 := c_seen (2, 2) (.inr rfl)
  have a4 := c_seen (1, 1) (.inl rfl)
  have v3 : seen1 [(1, 1), (2, 2)] (2, 2) = false := by decide
  have v4 : seen1 [(1, 1), (2, 2)] (1, 1) = true := by decide
  rw [v3] at a3
  rw [v4] at a4
  have n1 := ne_pts [(2, 1), (1, 1), (1, 2)] [(2, 1), (1, 1), (1, 2)]
  have n2 := ne_pt (1, 1) (1, 1)
  simp only [List.map_cons, List.map_nil, decide_true, Bool.not_true] at a1 n1 n2
  unfold pD at a1 a2 a3 a4 n1 n2
  have s1 : st1_law [.va (.scr ns), .ow (.lst ds), .no, .no, .no, .no, .no, .no] = .ok .nx [.va (.scr ns), .ow (.lst ds), .no, .no, .no, .no, .no, .no] := by
    simp [st1_law, ev_liftE a1, ev_liftE a2, n1, n2]
  have i1 : dIsNot (.bl false) (.bl false) = some (.cl (.bl false)) := rfl
  have i2 : dIsNot (.bl true) (.bl true) = some (.cl (.bl false)) := rfl
  have s2 : st2_law [.va (.scr ns), .ow (.lst ds), .no, .no, .no, .no, .no, .no] = .ok .nx [.va (.scr ns), .ow (.lst ds), .no, .no, .no, .no, .no, .no] := by
    simp [st2_law, ev_liftE a3, ev_liftE a4, i1, i2]
  have s3 : st3_law [.va (.scr ns), .ow (.lst ds), .no, .no, .no, .no, .no, .no] = .ok .nx ρ' := by
    simp [st3_law, er, el]
  refine ⟨.cl (.bl true), ρ', ?_, rfl⟩
  simp [f_law, m_law, bodyF, s0, s1, s2, s3, st4_law]
end K87
open PySem PySem.W PyProof.Rows
set_option maxHeartbeats 0 in
theorem PySem.Challenge.cw_fanrounds_k87_whole_rays_between_and_see_holds : PySem.Challenge.rw_fanrounds_k87_whole_rays_between_and_see.Holds := by
  w_on; o_law; k_head; (case hw => w_witness2)
  k_fill
  refine Vy.walk_GL (l := PySem.Challenge.rw_fanrounds_k87_whole_rays_between_and_see) (n := 63) (k := 11) (x := "script") (F := K87.f_law) rfl (by decide) rfl ⟨rfl, by decide, by decide⟩ (fun w h Y => by first | exact PySem.W.kIn_of Y | exact PySem.W.km_in_of Y) ?G K87.holds_all
  case G =>
    intro w mg fa h KX G hmg
    refine' K87.fin_mk (K87.tabs_mk ?qa0 ?ql0 ?qh0 ?qc0 ?qv0 ?qn0 ?qr0 ?qa1 ?ql1 ?qh1 ?qc1 ?qv1 ?qn1 ?qr1 ?qd0_1 ?qz0 ?qz1 ?qz2 ?qz3 ?qz4) (K87.tb_mk KX G ?a0 ?l0 ?c0 ?k0 ?a1 ?l1 ?c1 ?k1 ?a2 ?l2 ?c2 ?k2 ?a3 ?l3 ?c3 ?k3 ?a4 ?l4 ?c4 ?k4 ?a5 ?l5 ?c5 ?k5 ?a6 ?l6 ?c6 ?k6 ?a7 ?l7 ?c7 ?k7 ?a8 ?l8 ?c8 ?k8 ?a9 ?l9 ?c9 ?k9 ?a10 ?l10 ?c10 ?k10 ?a11 ?l11 ?c11 ?k11 ?a12 ?l12 ?c12 ?k12 ?a13 ?l13 ?c13 ?k13 ?a14 ?l14 ?c14 ?k14 ?a15 ?l15 ?c15 ?k15 ?a16 ?l16 ?c16 ?k16 ?a17 ?l17 ?c17 ?k17 ?a18 ?l18 ?c18 ?k18 ?a19 ?l19 ?c19 ?k19 ?a20 ?l20 ?c20 ?k20 ?a21 ?l21 ?c21 ?k21 ?a22 ?l22 ?c22 ?k22 ?a23 ?l23 ?c23 ?k23 ?a24 ?l24 ?c24 ?k24 ?a25 ?l25 ?c25 ?k25 ?a26 ?l26 ?c26 ?k26 ?a27 ?l27 ?c27 ?k27 ?a28 ?l28 ?c28 ?k28 ?a29 ?l29 ?c29 ?k29 ?a30 ?l30 ?c30 ?k30 ?z0 ?z1 ?z2 ?z3 ?z4 ?z5 ?z6 ?z7 ?z8 ?z9 ?z10 ?z11 ?y0 ?y1 ?y2 ?e0 ?et0 ?eb0 ?ec0 ?es0 ?e1 ?et1 ?eb1 ?ec1 ?es1 ?e2 ?et2 ?eb2 ?ec2 ?es2 ?e3 ?et3 ?eb3 ?ec3 ?es3 ?e4 ?et4 ?eb4 ?ec4 ?es4 ?e5 ?et5 ?eb5 ?ec5 ?es5 ?hn ?ht ?ek1 ?eg1 ?eh1 ?ed1 ?ea1 ?eo1 ?p1_2 ?p1_3 ?p1_4 ?p1_5 ?p1_0 ?pb1_ValueError ?ex1 ?ek2 ?eg2 ?eh2 ?ed2 ?ea2 ?eo2 ?p2_1 ?p2_3 ?p2_4 ?p2_5 ?p2_0 ?pb2_ValueError ?ex2 ?ek3 ?eg3 ?eh3 ?ed3 ?ea3 ?eo3 ?p3_1 ?p3_2 ?p3_4 ?p3_5 ?p3_0 ?pb3_ValueError ?ex3 ?ek4 ?eg4 ?eh4 ?ed4 ?ea4 ?eo4 ?p4_1 ?p4_2 ?p4_3 ?p4_5 ?p4_0 ?pb4_ValueError ?ex4 ?ek5 ?eg5 ?eh5 ?ed5 ?ea5 ?eo5 ?p5_1 ?p5_2 ?p5_3 ?p5_4 ?p5_0 ?pb5_ValueError ?ex5) hmg
    (case qa0 => k_is); (case ql0 => k_is); (case qh0 => rfl); (case qc0 => k_is); (case qv0 => rfl); (case qn0 => kernel_rfl); (case qr0 => kernel_rfl); (case qa1 => k_is); (case ql1 => k_is); (case qh1 => rfl); (case qc1 => k_is); (case qv1 => rfl); (case qn1 => kernel_rfl); (case qr1 => kernel_rfl); (case qd0_1 => decide); (case qz0 => k_is); (case qz1 => k_is); (case qz2 => k_is); (case qz3 => k_is); (case qz4 => k_is)
    (case a0 => k_is); (case l0 => k_is); (case c0 => k_is); (case k0 => k_is); (case a1 => k_is); (case l1 => k_is); (case c1 => k_is); (case k1 => k_is); (case a2 => k_is); (case l2 => k_is); (case c2 => k_is); (case k2 => k_is); (case a3 => k_is); (case l3 => k_is); (case c3 => k_is); (case k3 => k_is); (case a4 => k_is); (case l4 => k_is); (case c4 => k_is); (case k4 => k_is); (case a5 => k_is); (case l5 => k_is); (case c5 => k_is); (case k5 => k_is); (case a6 => k_is); (case l6 => k_is); (case c6 => k_is); (case k6 => k_is); (case a7 => k_is); (case l7 => k_is); (case c7 => k_is); (case k7 => k_is); (case a8 => k_is); (case l8 => k_is); (case c8 => k_is); (case k8 => k_is); (case a9 => k_is); (case l9 => k_is); (case c9 => k_is); (case k9 => k_is); (case a10 => k_is); (case l10 => k_is); (case c10 => k_is); (case k10 => k_is); (case a11 => k_is); (case l11 => k_is); (case c11 => k_is); (case k11 => k_is); (case a12 => k_is); (case l12 => k_is); (case c12 => k_is); (case k12 => k_is); (case a13 => k_is); (case l13 => k_is); (case c13 => k_is); (case k13 => k_is); (case a14 => k_is); (case l14 => k_is); (case c14 => k_is); (case k14 => k_is); (case a15 => k_is); (case l15 => k_is); (case c15 => k_is); (case k15 => k_is); (case a16 => k_is); (case l16 => k_is); (case c16 => k_is); (case k16 => k_is); (case a17 => k_is); (case l17 => k_is); (case c17 => k_is); (case k17 => k_is); (case a18 => k_is); (case l18 => k_is); (case c18 => k_is); (case k18 => k_is); (case a19 => k_is); (case l19 => k_is); (case c19 => k_is); (case k19 => k_is); (case a20 => k_is); (case l20 => k_is); (case c20 => k_is); (case k20 => k_is); (case a21 => k_is); (case l21 => k_is); (case c21 => k_is); (case k21 => k_is); (case a22 => k_is); (case l22 => k_is); (case c22 => k_is); (case k22 => k_is); (case a23 => k_is); (case l23 => k_is); (case c23 => k_is); (case k23 => k_is); (case a24 => k_is); (case l24 => k_is); (case c24 => k_is); (case k24 => k_is); (case a25 => k_is); (case l25 => k_is); (case c25 => k_is); (case k25 => k_is); (case a26 => k_is); (case l26 => k_is); (case c26 => k_is); (case k26 => k_is); (case a27 => k_is); (case l27 => k_is); (case c27 => k_is); (case k27 => k_is); (case a28 => k_is); (case l28 => k_is); (case c28 => k_is); (case k28 => k_is); (case a29 => k_is); (case l29 => k_is); (case c29 => k_is); (case k29 => k_is); (case a30 => k_is); (case l30 => k_is); (case c30 => k_is); (case k30 => k_is); (case z0 => k_is); (case z1 => k_is); (case z2 => k_is); (case z3 => k_is); (case z4 => k_is); (case z5 => k_is); (case z6 => k_is); (case z7 => k_is); (case z8 => k_is); (case z9 => k_is); (case z10 => k_is); (case z11 => k_is); (case y0 => k_is); (case y1 => k_is); (case y2 => k_is); (case e0 => k_is); (case et0 => k_is); (case eb0 => k_is); (case ec0 => k_is); (case es0 => k_is); (case e1 => k_is); (case et1 => k_is); (case eb1 => k_is); (case ec1 => k_is); (case es1 => k_is); (case e2 => k_is); (case et2 => k_is); (case eb2 => k_is); (case ec2 => k_is); (case es2 => k_is); (case e3 => k_is); (case et3 => k_is); (case eb3 => k_is); (case ec3 => k_is); (case es3 => k_is); (case e4 => k_is); (case et4 => k_is); (case eb4 => k_is); (case ec4 => k_is); (case es4 => k_is); (case e5 => k_is); (case et5 => k_is); (case eb5 => k_is); (case ec5 => k_is); (case es5 => k_is); (case hn => k_is); (case ht => k_is); (case ek1 => k_is); (case eg1 => k_is); (case eh1 => k_is); (case ed1 => k_is); (case ea1 => k_is); (case eo1 => k_is); (case p1_2 => k_is); (case p1_3 => k_is); (case p1_4 => k_is); (case p1_5 => k_is); (case p1_0 => k_is); (case pb1_ValueError => k_is); (case ex1 => k_exc); (case ek2 => k_is); (case eg2 => k_is); (case eh2 => k_is); (case ed2 => k_is); (case ea2 => k_is); (case eo2 => k_is); (case p2_1 => k_is); (case p2_3 => k_is); (case p2_4 => k_is); (case p2_5 => k_is); (case p2_0 => k_is); (case pb2_ValueError => k_is); (case ex2 => k_exc); (case ek3 => k_is); (case eg3 => k_is); (case eh3 => k_is); (case ed3 => k_is); (case ea3 => k_is); (case eo3 => k_is); (case p3_1 => k_is); (case p3_2 => k_is); (case p3_4 => k_is); (case p3_5 => k_is); (case p3_0 => k_is); (case pb3_ValueError => k_is); (case ex3 => k_exc); (case ek4 => k_is); (case eg4 => k_is); (case eh4 => k_is); (case ed4 => k_is); (case ea4 => k_is); (case eo4 => k_is); (case p4_1 => k_is); (case p4_2 => k_is); (case p4_3 => k_is); (case p4_5 => k_is); (case p4_0 => k_is); (case pb4_ValueError => k_is); (case ex4 => k_exc); (case ek5 => k_is); (case eg5 => k_is); (case eh5 => k_is); (case ed5 => k_is); (case ea5 => k_is); (case eo5 => k_is); (case p5_1 => k_is); (case p5_2 => k_is); (case p5_3 => k_is); (case p5_4 => k_is); (case p5_0 => k_is); (case pb5_ValueError => k_is); (case ex5 => k_exc)
