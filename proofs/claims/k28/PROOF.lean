import PyProof.Rows.All
import Wide.All
import OpenK.AllK
import Wide.FinOn
import HandS.ForMost
import HandS.ForExc
import HandS.ExcInit
import HandS.SetKeys
import HandS.Defaults
import HandS.MakeKw
import HandS.MakeKwOnly
import HandS.CallSlots
import HandS.Lambda
import HandS.Flow
import HandS.Walk
import HandS.TupAny
import KE.GoesEnum
import HandS.Style
import HandS.TupMul
import HandS.Deep
import HandS.HeadWalk
import HandS.HeadHook2
import HandS.HeadEnd
import HandS.Head2
import PySem.Challenge.RW_needlecloth_k28_whole_pull_and_what_make
set_option Elab.async false
set_option linter.all false
set_option maxRecDepth 100000
set_option maxHeartbeats 0
namespace NC
open PySem PySem.Spec L2
open PyProof.Rows hiding St

/-- a key of a dict -/
inductive Kx where
  | i (n : Int) | s (l : List Nat)
  deriving DecidableEq, Repr
/-- plain data: texts by their codes; lst: a list that is never written again; ref: a place of the list heap -/
inductive D where
  | non | bl (b : Bool) | int (i : Int) | str (s : List Nat) | tup (xs : List D) | lst (xs : List D) | ref (i : Nat) | scr (xs : List Int)
  | dic (ks : List Kx) (vs : List D) | dit (ks : List (List Kx)) (vs : List D)
  deriving Repr, Inhabited
inductive Ob where
  | lst (xs : List D) | dk (kvs : List (Kx × D)) | dt (kvs : List (List Kx × D)) | ins (c : Nat) (fs : List (Option D))
  deriving Repr, Inhabited
abbrev Hs := List Ob
abbrev SS := List (Option D)
/-- an exception: its class by number, its field -/
structure Ex where
  c : Nat
  f : D
  deriving Repr
inductive R (α : Type) where
  | ok (a : α) (h : Hs) | exc (e : Ex) (h : Hs) | err
  deriving Repr
inductive RS where
  | nx (s : SS) (h : Hs) | rt (d : D) (h : Hs) | bk (s : SS) (h : Hs) | ct (s : SS) (h : Hs) | exc (e : Ex) (s : SS) (h : Hs) | err
  deriving Repr
/-- an expression's meaning: the slots, the floor, the heap -/
abbrev ME (α : Type) := SS → Nat → Hs → R α
abbrev MS := SS → Nat → Hs → RS
/-- a def's meaning -/
abbrev MF := List D → Nat → Hs → R D
def R.bind {α β : Type} (r : R α) (f : α → Hs → R β) : R β := match r with
  | .ok a h => f a h
  | .exc e h => .exc e h
  | .err => .err
@[simp] theorem R.bind_ok {α β : Type} (a : α) (h : Hs) (f : α → Hs → R β) : (R.ok a h).bind f = f a h := rfl
@[simp] theorem R.bind_exc {α β : Type} (e : Ex) (h : Hs) (f : α → Hs → R β) : (R.exc e h : R α).bind f = .exc e h := rfl
@[simp] theorem R.bind_err {α β : Type} (f : α → Hs → R β) : (R.err : R α).bind f = .err := rfl

/-- a text that the model takes -/
def TxOk (l : List Nat) : Prop := l.length ≤ 16777216 ∧ ∀ c ∈ l, c < 0x110000
mutual
def D.low (n : Nat) : D → Bool
  | .ref i => decide (i < n)
  | .tup xs => lowL n xs
  | .lst xs => lowL n xs
  | .dic _ xs => lowL n xs
  | .dit _ xs => lowL n xs
  | _ => true
def lowL (n : Nat) : List D → Bool
  | [] => true
  | x :: xs => x.low n && lowL n xs
end
theorem lowL_iff {n : Nat} : ∀ {l : List D}, lowL n l = true ↔ ∀ d ∈ l, d.low n = true
  | [] => by simp [lowL]
  | x :: xs => by simp [lowL, lowL_iff (l := xs)]
def Ob.low (n : Nat) : Ob → Bool
  | .lst xs => lowL n xs
  | .dk kvs => lowL n (kvs.map (·.2))
  | .dt kvs => lowL n (kvs.map (·.2))
  | .ins _ fs => lowL n (fs.filterMap id)
/-- what stands below the floor tells of nothing above it -/
def Low (fl : Nat) (h : Hs) : Prop := ∀ (i : Nat) (o : Ob), i < fl → h[i]? = some o → o.low fl = true
/-- from h to h': below the floor nothing is written that tells of a place -/
structure Lw (fl : Nat) (h h' : Hs) : Prop where
  low : ∀ n, n ≤ fl → Low n h → Low n h'
  le : h.length ≤ h'.length
theorem Lw.refl {fl : Nat} {h : Hs} : Lw fl h h := ⟨fun _ _ q => q, Nat.le_refl _⟩
theorem Lw.trans {fl : Nat} {h h1 h2 : Hs} (a : Lw fl h h1) (b : Lw fl h1 h2) : Lw fl h h2 := ⟨fun n hn q => b.low n hn (a.low n hn q), Nat.le_trans a.le b.le⟩
theorem Lw.push {fl : Nat} {h : Hs} (hf : fl ≤ h.length) (o : Ob) : Lw fl h (h ++ [o]) := ⟨fun n hn hl i o' hi e => by
  rw [List.getElem?_append_left (by omega)] at e
  exact hl i o' hi e, by simp⟩
def GdR {α : Type} (fl : Nat) (h : Hs) : R α → Prop
  | .ok _ h' => Lw fl h h'
  | .exc _ h' => Lw fl h h'
  | .err => True
def Gd {α : Type} (m : ME α) : Prop := ∀ (s : SS) (fl : Nat) (h : Hs), fl ≤ h.length → GdR fl h (m s fl h)
theorem GdR.weak {α : Type} {fl : Nat} {h h1 : Hs} {r : R α} (a : Lw fl h h1) (q : GdR fl h1 r) : GdR fl h r := by
  cases r with
  | ok x h2 => exact a.trans q
  | exc x h2 => exact a.trans q
  | err => trivial
theorem GdR.bind {α β : Type} {fl : Nat} {h : Hs} {r : R α} {f : α → Hs → R β} (a : GdR fl h r) (b : ∀ x h1, h.length ≤ h1.length → GdR fl h1 (f x h1)) : GdR fl h (r.bind f) := by
  cases r with
  | ok x h1 => exact GdR.weak a (b x h1 (Lw.le a))
  | exc e h1 => exact a
  | err => trivial
theorem gd_bind {α β : Type} {m : ME α} {f : α → ME β} (a : Gd m) (b : ∀ x, Gd (f x)) : Gd (fun s fl h => (m s fl h).bind fun x h1 => f x s fl h1) :=
  fun s fl h hf => (a s fl h hf).bind fun x h1 le => b x s fl h1 (Nat.le_trans hf le)
def ofO (o : Option D) (h : Hs) : R D := match o with
  | some d => .ok d h
  | none => .err
@[simp] theorem ofO_some (d : D) (h : Hs) : ofO (some d) h = .ok d h := rfl
@[simp] theorem ofO_none (h : Hs) : ofO none h = .err := rfl
theorem gd_ofO {fl : Nat} {h : Hs} (o : Option D) : GdR fl h (ofO o h) := by
  cases o with
  | none => trivial
  | some d => exact Lw.refl

def kx : Kx → Key
  | .i n => .inl n
  | .s l => .inr ⟨l.toArray⟩

/-- a list that is never written: what the script is -/
def SqF (K : PySem.W.Frag) (F : Addr → Prop) (H : Hp) (a : Addr) (xs : List V) : Prop := (F a ∧ H a = some (.lst xs)) ∨ (∃ o, H a = some (.frz o (.lst xs))) ∨ ∃ o its n, List.lookup a K = some o ∧ o.cls = .type "list" ∧ o.dict = none ∧ o.data = .seq its n ∧ its.size ≤ sizeLine ∧ Vals xs its.toList
theorem SqF.wide {K : PySem.W.Frag} {F F' : Addr → Prop} {H : Hp} {a : Addr} {xs : List V} (hF : ∀ a, F a → F' a) (h : SqF K F H a xs) : SqF K F' H a xs := by
  rcases h with ⟨f, h⟩ | h
  · exact .inl ⟨hF _ f, h⟩
  · exact .inr h
theorem SqF.sq {K : PySem.W.Frag} {F : Addr → Prop} {H : Hp} {a : Addr} {xs : List V} (h : SqF K F H a xs) : SqL K H a xs := by
  rcases h with ⟨_, h⟩ | ⟨o, h⟩ | h
  · exact SqL.of h
  · exact .inl (.inr ⟨o, h⟩)
  · exact .inr h
mutual
inductive RD (K : PySem.W.Frag) (rho : List Addr) (F : Addr → Prop) (H : Hp) : V → D → Prop
  | non : RD K rho F H .non .non
  | bl (b : Bool) : RD K rho F H (.bl b) (.bl b)
  | int (i : Int) : RD K rho F H (.int i) (.int i)
  | str (l : List Nat) (ok : TxOk l) : RD K rho F H (.str ⟨l.toArray⟩) (.str l)
  | tup {a : Addr} {vs : List V} {ds : List D} : H a = some (.tup vs) → RDs K rho F H vs ds → RD K rho F H (.ref a) (.tup ds)
  | lst {a : Addr} {vs : List V} {ds : List D} : F a → H a = some (.lst vs) → RDs K rho F H vs ds → RD K rho F H (.ref a) (.lst ds)
  | ref {i : Nat} {a : Addr} : rho[i]? = some a → RD K rho F H (.ref a) (.ref i)
  | scr {a : Addr} {ns : List Int} : SqF K F H a (ns.map V.int) → RD K rho F H (.ref a) (.scr ns)
  | dic {a : Addr} {ws : List (Key × V)} {ks : List Kx} {ds : List D} : F a → Rd H a (.dK ws) → ws.map (·.1) = ks.map kx → RDs K rho F H (ws.map (·.2)) ds → RD K rho F H (.ref a) (.dic ks ds)
  | dit {a : Addr} {ws : List (List Key × V)} {ks : List (List Kx)} {ds : List D} : F a → Rd H a (.dT ws) → ws.map (·.1) = ks.map (List.map kx) → RDs K rho F H (ws.map (·.2)) ds → RD K rho F H (.ref a) (.dit ks ds)
inductive RDs (K : PySem.W.Frag) (rho : List Addr) (F : Addr → Prop) (H : Hp) : List V → List D → Prop
  | nil : RDs K rho F H [] []
  | cons {v : V} {vs : List V} {d : D} {ds : List D} : RD K rho F H v d → RDs K rho F H vs ds → RDs K rho F H (v :: vs) (d :: ds)
end
/-- the text's constants: class numbers -/
structure Cn where
  K : PySem.W.Frag
  cl : Nat → Addr
  fn : Nat → List Str
  ef : Nat → Option Str
def RO (K : PySem.W.Frag) (rho : List Addr) (F : Addr → Prop) (H : Hp) : Option V → Option D → Prop
  | some v, some d => RD K rho F H v d
  | none, none => True
  | _, _ => False
def cntS (fs : List (Option D)) : Nat := (fs.filter Option.isSome).length
def ObR (C : Cn) (rho : List Addr) (F : Addr → Prop) (H : Hp) (a : Addr) : Ob → Prop
  | .lst xs => ∃ vs, H a = some (.lst vs) ∧ RDs C.K rho F H vs xs
  | .dk kvs => ∃ ws, H a = some (.dK ws) ∧ Paired (fun (p : Key × V) (q : Kx × D) => p.1 = kx q.1 ∧ RD C.K rho F H p.2 q.2) ws kvs
  | .dt kvs => ∃ ws, H a = some (.dT ws) ∧ Paired (fun (p : List Key × V) (q : List Kx × D) => p.1 = q.1.map kx ∧ RD C.K rho F H p.2 q.2) ws kvs
  | .ins c fs => ∃ dx ws, H a = some (.ins (C.cl c) dx ws) ∧ ws.length ≤ cntS fs ∧ fs.length = (C.fn c).length ∧ (∀ x v, ws.lookup x = some v → x ∈ C.fn c) ∧
      ∀ (i : Nat) (x : Str) (d : Option D), (C.fn c)[i]? = some x → fs[i]? = some d → RO C.K rho F H (ws.lookup x) d
structure GR (C : Cn) (rho : List Addr) (F : Addr → Prop) (h : Hs) (H : Hp) : Prop where
  len : rho.length = h.length
  nd : rho.Nodup
  nf : ∀ a ∈ rho, ¬ F a
  ft : ∀ a, F a → ∃ o, H a = some o
  ob : ∀ (i : Nat) (o : Ob) (a : Addr), h[i]? = some o → rho[i]? = some a → ObR C rho F H a o
structure Ext (K : PySem.W.Frag) (rho : List Addr) (F : Addr → Prop) (H : Hp) (rho' : List Addr) (F' : Addr → Prop) (H' : Hp) : Prop where
  pre : ∃ r, rho' = rho ++ r
  fr : ∀ a, F a → F' a
  tp : ∀ a xs, H a = some (.tup xs) → H' a = some (.tup xs)
  ls : ∀ a xs, F a → H a = some (.lst xs) → H' a = some (.lst xs)
  fz : ∀ a o u, H a = some (.frz o u) → H' a = some (.frz o u)
  dk : ∀ a ws, F a → Rd H a (.dK ws) → Rd H' a (.dK ws)
  dt : ∀ a ws, F a → Rd H a (.dT ws) → Rd H' a (.dT ws)
section
variable {K : PySem.W.Frag} {rho rho' rho2 : List Addr} {F F' F2 : Addr → Prop} {H H' H2 : Hp}
theorem Ext.refl : Ext K rho F H rho F H := ⟨⟨[], by simp⟩, fun _ h => h, fun _ _ h => h, fun _ _ _ h => h, fun _ _ _ h => h, fun _ _ _ h => h, fun _ _ _ h => h⟩
theorem Ext.trans (a : Ext K rho F H rho' F' H') (b : Ext K rho' F' H' rho2 F2 H2) : Ext K rho F H rho2 F2 H2 := by
  obtain ⟨r, e⟩ := a.pre
  obtain ⟨r', e'⟩ := b.pre
  exact ⟨⟨r ++ r', by rw [e', e, List.append_assoc]⟩, fun x h => b.fr x (a.fr x h), fun x xs h => b.tp x xs (a.tp x xs h), fun x xs f h => b.ls x xs (a.fr x f) (a.ls x xs f h), fun x o u h => b.fz x o u (a.fz x o u h), fun x u f h => b.dk x u (a.fr x f) (a.dk x u f h), fun x u f h => b.dt x u (a.fr x f) (a.dt x u f h)⟩
/-- one place of the layer is changed: none that is not to be written -/
theorem Ext.at {r : List Addr} {p : Addr} {o : HO} (hF : ∀ a, F a → F' a) (h1 : ∀ a, F a → a ≠ p) (h2 : ∀ a xs, H a = some (.tup xs) → a ≠ p) (h3 : ∀ a ob u, H a = some (.frz ob u) → a ≠ p) : Ext K rho F H (rho ++ r) F' (upd H p o) := by
  have rd : ∀ a u, F a → Rd H a u → Rd (upd H p o) a u := fun a u f q => by
    rcases q with q | ⟨ob, q⟩
    · exact .inl (by rw [upd_ne (h1 a f)]; exact q)
    · exact .inr ⟨ob, by rw [upd_ne (h1 a f)]; exact q⟩
  exact ⟨⟨r, rfl⟩, hF, fun a xs q => by rw [upd_ne (h2 a xs q)]; exact q, fun a xs f q => by rw [upd_ne (h1 a f)]; exact q, fun a ob u q => by rw [upd_ne (h3 a ob u q)]; exact q, fun a u f q => rd a _ f q, fun a u f q => rd a _ f q⟩
theorem Ext.sqt (e : Ext K rho F H rho' F' H') {a : Addr} {xs : List V} (h : SqT K H a xs) : SqT K H' a xs := by
  rcases h with (h | ⟨o, h⟩) | h
  · exact .inl (.inl (e.tp _ _ h))
  · exact .inl (.inr ⟨o, e.fz _ _ _ h⟩)
  · exact .inr h
theorem Ext.sqf (e : Ext K rho F H rho' F' H') {a : Addr} {xs : List V} (h : SqF K F H a xs) : SqF K F' H' a xs := by
  rcases h with ⟨f, h⟩ | ⟨o, h⟩ | h
  · exact .inl ⟨e.fr _ f, e.ls _ _ f h⟩
  · exact .inr (.inl ⟨o, e.fz _ _ _ h⟩)
  · exact .inr (.inr h)
mutual
theorem RD.ext (e : Ext K rho F H rho' F' H') : ∀ {v : V} {d : D}, RD K rho F H v d → RD K rho' F' H' v d
  | _, _, .non => .non
  | _, _, .bl b => .bl b
  | _, _, .int i => .int i
  | _, _, .str l ok => .str l ok
  | _, _, .tup h r => .tup (e.tp _ _ h) (RDs.ext e r)
  | _, _, .lst f h r => .lst (e.fr _ f) (e.ls _ _ f h) (RDs.ext e r)
  | _, _, .ref h => by
    obtain ⟨r, q⟩ := e.pre
    refine .ref ?_
    rw [q, List.getElem?_append_left (List.getElem?_eq_some_iff.mp h).1]
    exact h
  | _, _, .scr h => .scr (e.sqf h)
  | _, _, .dic f q k r => .dic (e.fr _ f) (e.dk _ _ f q) k (RDs.ext e r)
  | _, _, .dit f q k r => .dit (e.fr _ f) (e.dt _ _ f q) k (RDs.ext e r)
theorem RDs.ext (e : Ext K rho F H rho' F' H') : ∀ {vs : List V} {ds : List D}, RDs K rho F H vs ds → RDs K rho' F' H' vs ds
  | _, _, .nil => .nil
  | _, _, .cons a b => .cons (RD.ext e a) (RDs.ext e b)
end
theorem RDs.length : ∀ {vs : List V} {ds : List D}, RDs K rho F H vs ds → vs.length = ds.length
  | _, _, .nil => rfl
  | _, _, .cons _ r => congrArg Nat.succ r.length
theorem RDs.get : ∀ {vs : List V} {ds : List D}, RDs K rho F H vs ds → ∀ {i : Nat} {d : D}, ds[i]? = some d → ∃ v, vs[i]? = some v ∧ RD K rho F H v d
  | _, _, .nil, i, d, h => by simp at h
  | _, _, .cons a r, 0, d, h => by simp at h; subst h; exact ⟨_, rfl, a⟩
  | _, _, .cons a r, i + 1, d, h => by
    obtain ⟨v, h1, h2⟩ := r.get (i := i) (d := d) (by simpa using h)
    exact ⟨v, by simpa using h1, h2⟩
theorem RDs.append : ∀ {vs : List V} {ds : List D}, RDs K rho F H vs ds → ∀ {ws : List V} {es : List D}, RDs K rho F H ws es → RDs K rho F H (vs ++ ws) (ds ++ es)
  | _, _, .nil, _, _, r => r
  | _, _, .cons a q, _, _, r => .cons a (q.append r)
theorem RDs.take : ∀ (n : Nat) {vs : List V} {ds : List D}, RDs K rho F H vs ds → RDs K rho F H (vs.take n) (ds.take n)
  | 0, _, _, _ => by simp; exact .nil
  | _ + 1, _, _, .nil => by simp; exact .nil
  | n + 1, _, _, .cons a r => .cons a (RDs.take n r)
theorem RDs.drop : ∀ (n : Nat) {vs : List V} {ds : List D}, RDs K rho F H vs ds → RDs K rho F H (vs.drop n) (ds.drop n)
  | 0, _, _, r => r
  | _ + 1, _, _, .nil => by simp; exact .nil
  | n + 1, _, _, .cons a r => RDs.drop n r
theorem RDs.set {v : V} {d : D} (x : RD K rho F H v d) : ∀ {vs : List V} {ds : List D} (i : Nat), RDs K rho F H vs ds → RDs K rho F H (vs.set i v) (ds.set i d)
  | _, _, _, .nil => .nil
  | _, _, 0, .cons _ t => .cons x t
  | _, _, i + 1, .cons q t => .cons q (RDs.set x i t)
end

/-- each slot's value that the meaning knows -/
def SR (K : PySem.W.Frag) (rho : List Addr) (F : Addr → Prop) (H : Hp) (σ : St) (s : SS) : Prop :=
  σ.length = s.length ∧ ∀ (i : Nat) (d : D), s[i]? = some (some d) → ∃ v, σ[i]? = some (some v) ∧ RD K rho F H v d
theorem SR.ext {K : PySem.W.Frag} {rho rho' : List Addr} {F F' : Addr → Prop} {H H' : Hp} {σ : St} {s : SS} (e : Ext K rho F H rho' F' H') (r : SR K rho F H σ s) : SR K rho' F' H' σ s :=
  ⟨r.1, fun i d h => let ⟨v, a, b⟩ := r.2 i d h; ⟨v, a, b.ext e⟩⟩
theorem SR.set {K : PySem.W.Frag} {rho : List Addr} {F : Addr → Prop} {H : Hp} {σ : St} {s : SS} (r : SR K rho F H σ s) (i : Nat) {v : V} {d : D} (x : RD K rho F H v d) : SR K rho F H (σ.set i (some v)) (s.set i (some d)) := by
  refine ⟨by simpa using r.1, fun j e h => ?_⟩
  by_cases hj : i = j
  · subst hj
    rw [List.getElem?_set] at h
    split at h
    · split at h
      · cases h
        rename_i hl
        refine ⟨v, ?_, x⟩
        rw [List.getElem?_set, if_pos rfl, if_pos (by rw [r.1]; exact hl)]
      · cases h
    · exact absurd rfl ‹_›
  · rw [List.getElem?_set_ne hj] at h ⊢
    exact r.2 j e h

/-- how an exception of the layer is one of ours: its class, its own dict with its field -/
def ExR (C : Cn) (rho : List Addr) (F : Addr → Prop) (H : Hp) (cls : Value) (dd : Option Addr) (e : Ex) : Prop :=
  cls = .ref (C.cl e.c) ∧ match C.ef e.c with
    | none => True
    | some x => ∃ d v, dd = some d ∧ H d = some (.xd [(x, v)]) ∧ RD C.K rho F H v e.f
/-- what a result asks of what follows: P of the value, the heap, the tie -/
def OkX {α : Type} (C : Cn) (rho : List Addr) (F : Addr → Prop) (H : Hp) (P : α → Hs → List Addr → (Addr → Prop) → Hp → Prop) (W : XK) : R α → Prop
  | .ok d h' => ∀ rho' F' H', Ext C.K rho F H rho' F' H' → GR C rho' F' h' H' → P d h' rho' F' H'
  | .exc e h' => ∀ cls dd rho' F' H', Ext C.K rho F H rho' F' H' → GR C rho' F' h' H' → ExR C rho' F' H' cls dd e → W cls dd H'
  | .err => False
abbrev OkR (C : Cn) (rho : List Addr) (F : Addr → Prop) (H : Hp) (Q : VK) (W : XK) (r : R D) : Prop := OkX C rho F H (fun d _ rho' F' H' => ∀ v, RD C.K rho' F' H' v d → Q v H') W r
abbrev OkB (C : Cn) (rho : List Addr) (F : Addr → Prop) (H : Hp) (Q : Bool → Hp → Prop) (W : XK) (r : R Bool) : Prop := OkX C rho F H (fun b _ _ _ H' => Q b H') W r
abbrev OkA (C : Cn) (rho : List Addr) (F : Addr → Prop) (H : Hp) (Q : List V → Hp → Prop) (W : XK) (r : R (List D)) : Prop := OkX C rho F H (fun ds _ rho' F' H' => ∀ vs, RDs C.K rho' F' H' vs ds → Q vs H') W r
def OkS (C : Cn) (rho : List Addr) (F : Addr → Prop) (H : Hp) (D : Ends) (W : WX) : RS → Prop
  | .nx s h' => ∀ σ' rho' F' H', Ext C.K rho F H rho' F' H' → GR C rho' F' h' H' → SR C.K rho' F' H' σ' s → D.nx σ' H'
  | .bk s h' => ∀ σ' rho' F' H', Ext C.K rho F H rho' F' H' → GR C rho' F' h' H' → SR C.K rho' F' H' σ' s → D.bk σ' H'
  | .ct s h' => ∀ σ' rho' F' H', Ext C.K rho F H rho' F' H' → GR C rho' F' h' H' → SR C.K rho' F' H' σ' s → D.ct σ' H'
  | .rt d h' => ∀ v rho' F' H', Ext C.K rho F H rho' F' H' → GR C rho' F' h' H' → RD C.K rho' F' H' v d → D.rt v H'
  | .exc e s h' => ∀ cls dd σ' rho' F' H', Ext C.K rho F H rho' F' H' → GR C rho' F' h' H' → SR C.K rho' F' H' σ' s → ExR C rho' F' H' cls dd e → W cls dd σ' H'
  | .err => False
def TM (C : Cn) (W : WX) (m : ME D) : TE := fun σ H Q => ∃ rho F s fl h, SR C.K rho F H σ s ∧ GR C rho F h H ∧ OkR C rho F H Q (fun c d H' => W c d σ H') (m s fl h)
def TB (C : Cn) (W : WX) (m : ME Bool) : TT := fun σ H Q => ∃ rho F s fl h, SR C.K rho F H σ s ∧ GR C rho F h H ∧ OkB C rho F H Q (fun c d H' => W c d σ H') (m s fl h)
def TL (C : Cn) (W : WX) (m : ME (List D)) : TA := fun σ H Q => ∃ rho F s fl h, SR C.K rho F H σ s ∧ GR C rho F h H ∧ OkA C rho F H Q (fun c d H' => W c d σ H') (m s fl h)
def TQ (C : Cn) (W : WX) (m : MS) : TS := fun D σ H => ∃ rho F s fl h, SR C.K rho F H σ s ∧ GR C rho F h H ∧ OkS C rho F H D W (m s fl h)
def R.bindS {α : Type} (r : R α) (s : SS) (f : α → Hs → RS) : RS := match r with
  | .ok a h => f a h
  | .exc e h => .exc e s h
  | .err => .err
@[simp] theorem R.bindS_ok {α : Type} (a : α) (h : Hs) (s : SS) (f : α → Hs → RS) : (R.ok a h).bindS s f = f a h := rfl
@[simp] theorem R.bindS_exc {α : Type} (e : Ex) (h : Hs) (s : SS) (f : α → Hs → RS) : (R.exc e h : R α).bindS s f = .exc e s h := rfl
@[simp] theorem R.bindS_err {α : Type} (s : SS) (f : α → Hs → RS) : (R.err : R α).bindS s f = .err := rfl
def RS.seq (r : RS) (f : SS → Hs → RS) : RS := match r with
  | .nx s h => f s h
  | r => r
@[simp] theorem RS.seq_nx (s : SS) (h : Hs) (f : SS → Hs → RS) : (RS.nx s h).seq f = f s h := rfl
@[simp] theorem RS.seq_rt (d : D) (h : Hs) (f : SS → Hs → RS) : (RS.rt d h).seq f = .rt d h := rfl
@[simp] theorem RS.seq_bk (s : SS) (h : Hs) (f : SS → Hs → RS) : (RS.bk s h).seq f = .bk s h := rfl
@[simp] theorem RS.seq_ct (s : SS) (h : Hs) (f : SS → Hs → RS) : (RS.ct s h).seq f = .ct s h := rfl
@[simp] theorem RS.seq_exc (e : Ex) (s : SS) (h : Hs) (f : SS → Hs → RS) : (RS.exc e s h).seq f = .exc e s h := rfl
@[simp] theorem RS.seq_err (f : SS → Hs → RS) : RS.err.seq f = .err := rfl
def GdS (fl : Nat) (h : Hs) : RS → Prop
  | .nx _ h' => Lw fl h h'
  | .bk _ h' => Lw fl h h'
  | .ct _ h' => Lw fl h h'
  | .rt _ h' => Lw fl h h'
  | .exc _ _ h' => Lw fl h h'
  | .err => True
theorem GdS.weak {fl : Nat} {h h1 : Hs} {r : RS} (a : GdS fl h1 r) (le : Lw fl h h1) : GdS fl h r := by
  cases r <;> first | trivial | exact le.trans a
theorem GdR.bindS {α : Type} {fl : Nat} {h : Hs} {r : R α} {s : SS} {f : α → Hs → RS} (a : GdR fl h r) (b : ∀ x h1, h.length ≤ h1.length → GdS fl h1 (f x h1)) : GdS fl h (r.bindS s f) := by
  cases r with
  | ok x h1 => exact (b x h1 (Lw.le a)).weak a
  | exc e h1 => exact a
  | err => trivial
theorem GdS.seq {fl : Nat} {h : Hs} {r : RS} {f : SS → Hs → RS} (a : GdS fl h r) (b : ∀ s h1, h.length ≤ h1.length → GdS fl h1 (f s h1)) : GdS fl h (r.seq f) := by
  cases r with
  | nx s h1 => exact (b s h1 (Lw.le a)).weak a
  | _ => exact a
def GdM (m : MS) : Prop := ∀ (s : SS) (fl : Nat) (h : Hs), fl ≤ h.length → GdS fl h (m s fl h)
section
variable {C : Cn} {rho rho' : List Addr} {F F' : Addr → Prop} {H H' : Hp} {W : XK}
theorem OkX.ext {α : Type} {P : α → Hs → List Addr → (Addr → Prop) → Hp → Prop} {r : R α} (e : Ext C.K rho F H rho' F' H') (x : OkX C rho F H P W r) : OkX C rho' F' H' P W r := by
  cases r with
  | ok d h' => exact fun r2 F2 H2 e2 g => x r2 F2 H2 (e.trans e2) g
  | exc e' h' => exact fun c dd r2 F2 H2 e2 g d => x c dd r2 F2 H2 (e.trans e2) g d
  | err => exact x
theorem OkX.imp {α : Type} {P P' : α → Hs → List Addr → (Addr → Prop) → Hp → Prop} {r : R α} (x : OkX C rho F H P W r)
    (i : ∀ a h1 rho1 F1 H1, Ext C.K rho F H rho1 F1 H1 → GR C rho1 F1 h1 H1 → P a h1 rho1 F1 H1 → P' a h1 rho1 F1 H1) : OkX C rho F H P' W r := by
  cases r with
  | ok d h' => exact fun r2 F2 H2 e2 g => i _ _ _ _ _ e2 g (x r2 F2 H2 e2 g)
  | exc e' h' => exact x
  | err => exact x
theorem OkX.impE {α : Type} {P P' : α → Hs → List Addr → (Addr → Prop) → Hp → Prop} {r : R α} (x : OkX C rho F H P W r)
    (i : ∀ a h1 rho1 F1 H1, r = .ok a h1 → Ext C.K rho F H rho1 F1 H1 → GR C rho1 F1 h1 H1 → P a h1 rho1 F1 H1 → P' a h1 rho1 F1 H1) : OkX C rho F H P' W r := by
  cases r with
  | ok d h' => exact fun r2 F2 H2 e2 g => i _ _ _ _ _ rfl e2 g (x r2 F2 H2 e2 g)
  | exc e' h' => exact x
  | err => exact x
theorem OkX.bind {α β : Type} {P : β → Hs → List Addr → (Addr → Prop) → Hp → Prop} {r : R α} {f : α → Hs → R β} (x : OkX C rho F H P W (r.bind f)) :
    OkX C rho F H (fun a h1 rho1 F1 H1 => OkX C rho1 F1 H1 P W (f a h1)) W r := by
  cases r with
  | ok d h' => exact fun r2 F2 H2 e2 g => OkX.ext e2 x
  | exc e' h' => exact x
  | err => exact x
theorem OkS.ext {D : Ends} {W : WX} {r : RS} (e : Ext C.K rho F H rho' F' H') (x : OkS C rho F H D W r) : OkS C rho' F' H' D W r := by
  cases r with
  | nx s h' => exact fun σ r2 F2 H2 e2 g q => x σ r2 F2 H2 (e.trans e2) g q
  | bk s h' => exact fun σ r2 F2 H2 e2 g q => x σ r2 F2 H2 (e.trans e2) g q
  | ct s h' => exact fun σ r2 F2 H2 e2 g q => x σ r2 F2 H2 (e.trans e2) g q
  | rt s h' => exact fun σ r2 F2 H2 e2 g q => x σ r2 F2 H2 (e.trans e2) g q
  | exc e' s h' => exact fun c dd σ r2 F2 H2 e2 g s d => x c dd σ r2 F2 H2 (e.trans e2) g s d
  | err => exact x
theorem OkS.bindS {α : Type} {D : Ends} {W : WX} {σ : St} {s : SS} {r : R α} {f : α → Hs → RS} (hs : SR C.K rho F H σ s) (x : OkS C rho F H D W (r.bindS s f)) :
    OkX C rho F H (fun a h1 rho1 F1 H1 => OkS C rho1 F1 H1 D W (f a h1)) (fun c d H' => W c d σ H') r := by
  cases r with
  | ok d h' => exact fun r2 F2 H2 e2 g => OkS.ext e2 x
  | exc e' h' => exact fun c dd r2 F2 H2 e2 g d => x c dd σ r2 F2 H2 e2 g (hs.ext e2) d
  | err => exact x
theorem OkS.seq {D : Ends} {W : WX} {r : RS} {f : SS → Hs → RS} (x : OkS C rho F H D W (r.seq f)) {N : St → Hp → Prop}
    (n : ∀ s h1 σ rho1 F1 H1, Ext C.K rho F H rho1 F1 H1 → GR C rho1 F1 h1 H1 → SR C.K rho1 F1 H1 σ s → OkS C rho1 F1 H1 D W (f s h1) → N σ H1) : OkS C rho F H { D with nx := N } W r := by
  cases r with
  | nx s h' => exact fun σ r2 F2 H2 e2 g q => n s h' σ r2 F2 H2 e2 g q (OkS.ext e2 x)
  | bk s h' => exact x
  | ct s h' => exact x
  | rt s h' => exact x
  | exc e' s h' => exact x
  | err => exact x
end
/-- an expression that means m; a test; arguments; statements -/
structure PM (X : Cx) (C : Cn) (W : WX) (e : Expr) (m : ME D) : Prop where
  pe : PE X e (TM C W m)
  gd : Gd m
structure PMB (X : Cx) (C : Cn) (W : WX) (e : Expr) (m : ME Bool) : Prop where
  pt : PT X e (TB C W m)
  gd : Gd m
structure PMW (X : Cx) (C : Cn) (W : WX) (e : Expr) (m : ME Bool) : Prop where
  pw : PW X e (TB C W m)
  gd : Gd m
structure PMA (X : Cx) (C : Cn) (W : WX) (es : List Expr) (m : ME (List D)) : Prop where
  pa : PA X es (TL C W m)
  gd : Gd m
  ln : ∀ (s : SS) (fl : Nat) (h : Hs) (ds : List D) (h' : Hs), m s fl h = .ok ds h' → ds.length = es.length
structure PMS (X : Cx) (C : Cn) (W : WX) (st : Stmt) (m : MS) : Prop where
  ps : PS X st (TQ C W m)
  gd : GdM m
structure PML (X : Cx) (C : Cn) (W : WX) (sts : List Stmt) (m : MS) : Prop where
  ps : PSs X sts (TQ C W m)
  gd : GdM m
theorem pe_imp {X : Cx} {e : Expr} {t t' : TE} (h : PE X e t) (i : ∀ σ H Q, t' σ H Q → t σ H Q) : PE X e t' := ⟨fun pins s σ H Q I q => h.run pins s σ H Q I (i σ H Q q)⟩
theorem pt_imp {X : Cx} {e : Expr} {t t' : TT} (h : PT X e t) (i : ∀ σ H Q, t' σ H Q → t σ H Q) : PT X e t' := ⟨fun pins s σ H Q I q => h.run pins s σ H Q I (i σ H Q q)⟩
theorem pw_imp {X : Cx} {e : Expr} {t t' : TT} (h : PW X e t) (i : ∀ σ H Q, t' σ H Q → t σ H Q) : PW X e t' := ⟨fun wh pins s σ H Q I q => h.run wh pins s σ H Q I (i σ H Q q)⟩
theorem pa_imp {X : Cx} {es : List Expr} {t t' : TA} (h : PA X es t) (i : ∀ σ H Q, t' σ H Q → t σ H Q) : PA X es t' := ⟨fun p pins s σ H Q I q => h.run p pins s σ H Q I (i σ H Q q)⟩
theorem ps_imp {X : Cx} {st : Stmt} {t t' : TS} (h : PS X st t) (i : ∀ D σ H, t' D σ H → t D σ H) : PS X st t' := ⟨fun pins s σ H D I q => h.run pins s σ H D I (i D σ H q)⟩
theorem pss_imp {X : Cx} {st : List Stmt} {t t' : TS} (h : PSs X st t) (i : ∀ D σ H, t' D σ H → t D σ H) : PSs X st t' := ⟨fun pins s σ H D I q => h.run pins s σ H D I (i D σ H q)⟩
end NC

namespace NC
open PySem PySem.Spec L2
open PyProof.Rows hiding St
theorem sizeLine_is : sizeLine = 16777216 := sizeLine_eq
section
variable {C : Cn} {rho : List Addr} {F : Addr → Prop} {h : Hs} {H : Hp} {p : Addr}
/-- a new thing of the layer that no object of ours is -/
theorem Ext.new {K : PySem.W.Frag} {o : HO} {F' : Addr → Prop} (hp : H p = none) (ft : ∀ a, F a → ∃ o, H a = some o) (hF : ∀ a, F a → F' a) : Ext K rho F H rho F' (upd H p o) := by
  have q := Ext.at (K := K) (rho := rho) (r := []) (o := o) hF (fun a f => let ⟨_, z⟩ := ft a f; ne_of_none z hp) (fun a xs z => ne_of_none z hp) (fun a o u z => ne_of_none z hp)
  rw [List.append_nil] at q
  exact q
theorem RO.ext {K : PySem.W.Frag} {rho' : List Addr} {F' : Addr → Prop} {H' : Hp} (e : Ext K rho F H rho' F' H') : ∀ {v : Option V} {d : Option D}, RO K rho F H v d → RO K rho' F' H' v d
  | some _, some _, r => RD.ext e r
  | none, none, _ => trivial
  | some _, none, r => r.elim
  | none, some _, r => r.elim
theorem pimp {α β : Type} {A B : α → β → Prop} (f : ∀ a b, A a b → B a b) : ∀ {l : List α} {m : List β}, Paired A l m → Paired B l m
  | _, _, .nil => .nil
  | _, _, .cons a r => .cons (f _ _ a) (pimp f r)
theorem ObR.ext {rho' : List Addr} {F' : Addr → Prop} {H' : Hp} (e : Ext C.K rho F H rho' F' H') {a : Addr} {o : Ob} (x : ObR C rho F H a o) (ha : H' a = H a) : ObR C rho' F' H' a o := by
  cases o with
  | lst xs => obtain ⟨vs, q, r⟩ := x; exact ⟨vs, ha.trans q, RDs.ext e r⟩
  | dk kvs => obtain ⟨ws, q, r⟩ := x; exact ⟨ws, ha.trans q, pimp (fun a b z => ⟨z.1, RD.ext e z.2⟩) r⟩
  | dt kvs => obtain ⟨ws, q, r⟩ := x; exact ⟨ws, ha.trans q, pimp (fun a b z => ⟨z.1, RD.ext e z.2⟩) r⟩
  | ins c fs => obtain ⟨dx, ws, q, l, l2, i, r⟩ := x; exact ⟨dx, ws, ha.trans q, l, l2, i, fun i x d h1 h2 => RO.ext e (r i x d h1 h2)⟩
theorem ObR.there {a : Addr} {o : Ob} (x : ObR C rho F H a o) : ∃ u, H a = some u := by
  cases o with
  | lst xs => obtain ⟨vs, q, r⟩ := x; exact ⟨_, q⟩
  | dk kvs => obtain ⟨ws, q, r⟩ := x; exact ⟨_, q⟩
  | dt kvs => obtain ⟨ws, q, r⟩ := x; exact ⟨_, q⟩
  | ins c fs => obtain ⟨dx, ws, q, r⟩ := x; exact ⟨_, q⟩
theorem GR.at (g : GR C rho F h H) {i : Nat} {o : Ob} (e : h[i]? = some o) : ∃ a, rho[i]? = some a ∧ ObR C rho F H a o := by
  have hi : i < rho.length := by rw [g.len]; exact (List.getElem?_eq_some_iff.mp e).1
  exact ⟨rho[i], by simp [hi], g.ob i o _ e (by simp [hi])⟩
theorem GR.objAt (g : GR C rho F h H) {a : Addr} (ha : a ∈ rho) : ∃ u, H a = some u := by
  obtain ⟨i, e⟩ := List.mem_iff_getElem?.mp ha
  have hi : i < h.length := by rw [← g.len]; exact (List.getElem?_eq_some_iff.mp e).1
  exact (g.ob i h[i] a (by simp [hi]) e).there
theorem GR.notNew (g : GR C rho F h H) (hp : H p = none) : p ∉ rho := fun z => by
  obtain ⟨u, e⟩ := g.objAt z
  rw [hp] at e
  cases e
/-- a new thing that is not ours to write -/
theorem GR.new {o : HO} {F' : Addr → Prop} (g : GR C rho F h H) (hp : H p = none) (hF : ∀ a, F a → F' a) (hF' : ∀ a, F' a → F a ∨ a = p) : GR C rho F' h (upd H p o) := by
  have np := g.notNew hp
  refine ⟨g.len, g.nd, fun a ha f => ?_, fun a f => ?_, fun i o' a e1 e2 => ?_⟩
  · rcases hF' a f with q | q
    · exact g.nf a ha q
    · exact np (q ▸ ha)
  · by_cases e : a = p
    · subst e; exact ⟨_, upd_same⟩
    · rcases hF' a f with q | q
      · rw [upd_ne e]; exact g.ft a q
      · exact absurd q e
  · have ne : a ≠ p := fun z => np (z ▸ List.mem_of_getElem? e2)
    exact (g.ob i o' a e1 e2).ext (Ext.new hp g.ft hF) (upd_ne ne)
abbrev addF (F : Addr → Prop) (p : Addr) : Addr → Prop := fun a => F a ∨ a = p
theorem GR.newL {vs : List V} (g : GR C rho F h H) (hp : H p = none) : GR C rho (addF F p) h (upd H p (.lst vs)) := g.new hp (fun _ q => .inl q) fun _ q => q
theorem GR.newT {vs : List V} (g : GR C rho F h H) (hp : H p = none) : GR C rho F h (upd H p (.tup vs)) := g.new hp (fun _ q => q) fun _ q => .inl q
theorem Ext.newL {K : PySem.W.Frag} {vs : List V} (hp : H p = none) (ft : ∀ a, F a → ∃ o, H a = some o) : Ext K rho F H rho (addF F p) (upd H p (.lst vs)) := Ext.new hp ft fun _ q => .inl q
theorem Ext.newT {K : PySem.W.Frag} {vs : List V} (hp : H p = none) (ft : ∀ a, F a → ∃ o, H a = some o) : Ext K rho F H rho F (upd H p (.tup vs)) := Ext.new hp ft fun _ q => q
theorem RD.newL {K : PySem.W.Frag} {vs : List V} {ds : List D} (hp : H p = none) (ft : ∀ a, F a → ∃ o, H a = some o) (r : RDs K rho F H vs ds) : RD K rho (addF F p) (upd H p (.lst vs)) (.ref p) (.lst ds) := .lst (.inr rfl) upd_same (RDs.ext (Ext.newL hp ft) r)
theorem RD.newT {K : PySem.W.Frag} {vs : List V} {ds : List D} (hp : H p = none) (ft : ∀ a, F a → ∃ o, H a = some o) (r : RDs K rho F H vs ds) : RD K rho F (upd H p (.tup vs)) (.ref p) (.tup ds) := .tup upd_same (RDs.ext (Ext.newT hp ft) r)
end

def vw (h : Hs) : D → D
  | .ref i => match h[i]? with
    | some (.lst xs) => .lst xs
    | _ => .ref i
  | d => d
theorem vw_ref {h : Hs} {i : Nat} {d : D} (e : vw h (.ref i) = d) : (∃ xs, d = .lst xs ∧ h[i]? = some (.lst xs)) ∨ d = .ref i := by
  unfold vw at e
  cases o : h[i]? with
  | none => simp [o] at e; exact .inr e.symm
  | some ob =>
    simp only [o] at e
    cases ob with
    | lst ys => exact .inl ⟨ys, e.symm, rfl⟩
    | dk _ => exact .inr e.symm
    | dt _ => exact .inr e.symm
    | ins _ _ => exact .inr e.symm
section
variable {C : Cn} {rho : List Addr} {F : Addr → Prop} {h : Hs} {H : Hp}
theorem vw_lst (g : GR C rho F h H) {v : V} {d : D} {xs : List D} (r : RD C.K rho F H v d) (e : vw h d = .lst xs) : ∃ a vs, v = .ref a ∧ H a = some (.lst vs) ∧ RDs C.K rho F H vs xs := by
  cases r with
  | lst f q r => cases e; exact ⟨_, _, rfl, q, r⟩
  | ref q =>
    rename_i i a
    rcases vw_ref e with ⟨ys, z, o⟩ | z
    · cases z
      obtain ⟨vs, q1, q2⟩ := g.ob i _ a o q
      exact ⟨a, vs, rfl, q1, q2⟩
    · cases z
  | _ => cases e
theorem vw_tup {v : V} {d : D} {xs : List D} (r : RD C.K rho F H v d) (e : vw h d = .tup xs) : ∃ a vs, v = .ref a ∧ H a = some (.tup vs) ∧ RDs C.K rho F H vs xs := by
  cases r with
  | tup q r => cases e; exact ⟨_, _, rfl, q, r⟩
  | ref q =>
    rcases vw_ref e with ⟨ys, z, o⟩ | z <;> cases z
  | _ => cases e
theorem vw_int {v : V} {d : D} {i : Int} (r : RD C.K rho F H v d) (e : vw h d = .int i) : v = .int i := by
  cases r with
  | int j => cases e; rfl
  | ref q => rcases vw_ref e with ⟨ys, z, o⟩ | z <;> cases z
  | _ => cases e
theorem vw_bl {v : V} {d : D} {i : Bool} (r : RD C.K rho F H v d) (e : vw h d = .bl i) : v = .bl i := by
  cases r with
  | bl j => cases e; rfl
  | ref q => rcases vw_ref e with ⟨ys, z, o⟩ | z <;> cases z
  | _ => cases e
theorem vw_str {v : V} {d : D} {l : List Nat} (r : RD C.K rho F H v d) (e : vw h d = .str l) : v = .str ⟨l.toArray⟩ ∧ TxOk l := by
  cases r with
  | str j ok => cases e; exact ⟨rfl, ok⟩
  | ref q => rcases vw_ref e with ⟨ys, z, o⟩ | z <;> cases z
  | _ => cases e
theorem vw_non {v : V} {d : D} (r : RD C.K rho F H v d) (e : vw h d = .non) : v = .non := by
  cases r with
  | non => rfl
  | ref q => rcases vw_ref e with ⟨ys, z, o⟩ | z <;> cases z
  | _ => cases e
end

abbrev V2 := Hs → D → D → Option D
/-- what is wanted behind an operation that writes nothing -/
def Fin1 (C : Cn) (rho : List Addr) (F : Addr → Prop) (h : Hs) (H : Hp) (d : D) (Q : VK) : Prop := ∀ v F' H', Ext C.K rho F H rho F' H' → GR C rho F' h H' → RD C.K rho F' H' v d → Q v H'
def RV2 (C : Cn) (f : V2) : R2 := fun x y H Q => ∃ rho F h a b d, GR C rho F h H ∧ RD C.K rho F H x a ∧ RD C.K rho F H y b ∧ f h a b = some d ∧ Fin1 C rho F h H d Q
theorem Fin1.here {C : Cn} {rho : List Addr} {F : Addr → Prop} {h : Hs} {H : Hp} {d : D} {Q : VK} (k : Fin1 C rho F h H d Q) (g : GR C rho F h H) {v : V} (r : RD C.K rho F H v d) : Q v H := k v F H Ext.refl g r
theorem Fin1.newL {C : Cn} {rho : List Addr} {F : Addr → Prop} {h : Hs} {H : Hp} {ds : List D} {Q : VK} {vs : List V} (k : Fin1 C rho F h H (.lst ds) Q) (g : GR C rho F h H) (r : RDs C.K rho F H vs ds) : ∀ p, H p = none → Q (.ref p) (upd H p (.lst vs)) :=
  fun p hp => k _ _ _ (Ext.newL hp g.ft) (g.newL hp) (RD.newL hp g.ft r)
theorem Fin1.newT {C : Cn} {rho : List Addr} {F : Addr → Prop} {h : Hs} {H : Hp} {ds : List D} {Q : VK} {vs : List V} (k : Fin1 C rho F h H (.tup ds) Q) (g : GR C rho F h H) (r : RDs C.K rho F H vs ds) : ∀ p, H p = none → Q (.ref p) (upd H p (.tup vs)) :=
  fun p hp => k _ _ _ (Ext.newT hp g.ft) (g.newT hp) (RD.newT hp g.ft r)
def mBin (f : V2) (ma mb : ME D) : ME D := fun s fl h => (ma s fl h).bind fun a h1 => (mb s fl h1).bind fun b h2 => ofO (f h2 a b) h2
theorem gd_bin {f : V2} {ma mb : ME D} (a : Gd ma) (b : Gd mb) : Gd (mBin f ma mb) :=
  gd_bind a fun x => gd_bind b fun y => fun s fl h hf => gd_ofO _
theorem tm_bin {C : Cn} {W : WX} {f : V2} {ma mb : ME D} {σ : St} {H : Hp} {Q : VK} (q : TM C W (mBin f ma mb) σ H Q) : tOp (RV2 C f) (TM C W ma) (TM C W mb) σ H Q := by
  obtain ⟨rho, F, s, fl, h, hs, hg, ok⟩ := q
  refine ⟨rho, F, s, fl, h, hs, hg, ok.bind.imp fun a h1 rho1 F1 H1 e1 g1 ok1 v r1 => ?_⟩
  refine ⟨rho1, F1, s, fl, h1, hs.ext e1, g1, ok1.bind.imp fun b h2 rho2 F2 H2 e2 g2 ok2 u r2 => ?_⟩
  cases o : f h2 a b with
  | none => rw [o] at ok2; exact ok2.elim
  | some d =>
    rw [o] at ok2
    exact ⟨rho2, F2, h2, a, b, d, g2, RD.ext e2 r1, r2, o, fun w F3 H3 e3 g3 r3 => ok2 rho2 F3 H3 e3 g3 w r3⟩
section
variable {X : Cx} {C : Cn} {W : WX} {a b : Expr} {ma mb : ME D} {pos : Pos}
theorem me_bin {op : Operator} {f : V2} (ho : OpR X (binaryOp op) (RV2 C f)) (ha : PM X C W a ma) (hb : PM X C W b mb) : PM X C W (.BinOp a op b pos) (mBin f ma mb) :=
  ⟨pe_imp (pe_op ho ha.pe hb.pe) fun _ _ _ q => tm_bin q, gd_bin ha.gd hb.gd⟩
theorem me_cmp {op : CmpOp} {f : V2} (ho : OpR X (compareOp op) (RV2 C f)) (ha : PM X C W a ma) (hb : PM X C W b mb) (hm : behindInMarks op b = false) : PM X C W (.Compare a [op] [b] pos) (mBin f ma mb) :=
  ⟨pe_imp (pe_cmpR ho ha.pe hb.pe hm) fun _ _ _ q => tm_bin q, gd_bin ha.gd hb.gd⟩
end
def addD : V2 := fun h a b => match vw h a, vw h b with
  | .int i, .int j => some (.int (i + j))
  | .str x, .str y => if x.length + y.length ≤ 16777216 then some (.str (x ++ y)) else none
  | .lst x, .lst y => if x.length + y.length ≤ 16777216 then some (.lst (x ++ y)) else none
  | .tup x, .tup y => if x.length + y.length ≤ 16777216 then some (.tup (x ++ y)) else none
  | _, _ => none
theorem TxOk.append {x y : List Nat} (a : TxOk x) (b : TxOk y) (h : x.length + y.length ≤ 16777216) : TxOk (x ++ y) :=
  ⟨by rw [List.length_append]; exact h, fun c hc => (List.mem_append.mp hc).elim (a.2 c) (b.2 c)⟩
section
variable {X : Cx} {C : Cn}
theorem op_addD (hK : X.K = C.K) : OpR X (binaryOp .Add) (RV2 C addD) := by
  intro pins s σ H x y v u Q I rx ry q
  obtain ⟨rho, F, h, a, b, d, g, ra, rb, e, k⟩ := q
  unfold addD at e
  split at e
  · rename_i i j e1 e2
    cases e
    exact op_add pins s σ H x y v u Q I rx ry ⟨i, j, vw_int ra e1, vw_int rb e2, k.here g (.int _)⟩
  · rename_i i j e1 e2
    split at e
    · rename_i hl
      cases e
      obtain ⟨q1, o1⟩ := vw_str ra e1
      obtain ⟨q2, o2⟩ := vw_str rb e2
      refine op_add_str pins s σ H x y v u Q I rx ry ⟨_, _, q1, q2, ?_, ?_⟩
      · rw [sizeLine_is]; exact hl
      · have z : ((⟨i.toArray⟩ : Str) ++ (⟨j.toArray⟩ : Str)) = ⟨(i ++ j).toArray⟩ := by
          show Str.append _ _ = _
          simp [Str.append]
        rw [z]
        exact k.here g (.str _ (o1.append o2 hl))
    · cases e
  · rename_i i j e1 e2
    split at e
    · rename_i hl
      cases e
      obtain ⟨a1, vs, q1, q2, q3⟩ := vw_lst g ra e1
      obtain ⟨a2, ws, p1, p2, p3⟩ := vw_lst g rb e2
      exact op_cat pins s σ H x y v u Q I rx ry ⟨a1, a2, vs, ws, q1, p1, q2, p2, by rw [sizeLine_is, q3.length, p3.length]; exact hl, k.newL g (q3.append p3)⟩
    · cases e
  · rename_i i j e1 e2
    split at e
    · rename_i hl
      cases e
      obtain ⟨a1, vs, q1, q2, q3⟩ := vw_tup ra e1
      obtain ⟨a2, ws, p1, p2, p3⟩ := vw_tup rb e2
      refine op_catA pins s σ H x y v u Q I rx ry ⟨a1, a2, vs, ws, q1, p1, SqT.of q2, SqT.of p2, by rw [sizeLine_is, q3.length, p3.length]; exact hl, fun z => ?_, fun z1 z2 => ?_, fun _ _ => k.newT g (q3.append p3)⟩
      · subst z
        cases q3
        exact k.here g (.tup p2 p3)
      · subst z2
        cases p3
        rw [List.append_nil] at k
        exact k.here g (.tup q2 q3)
    · cases e
  · cases e
end
mutual
def eqD : D → D → Bool
  | .non, .non => true
  | .bl a, .bl b => a == b
  | .bl a, .int j => (if a then 1 else 0) == j
  | .int i, .bl b => i == (if b then 1 else 0)
  | .int i, .int j => i == j
  | .str x, .str y => x == y
  | .lst xs, .lst ys => eqL xs ys
  | .tup xs, .tup ys => eqL xs ys
  | _, _ => false
def eqL : List D → List D → Bool
  | [], [] => true
  | x :: xs, y :: ys => eqD x y && eqL xs ys
  | _, _ => false
end
-- plain to the depth n
mutual
def shal : Nat → D → Bool
  | _, .non => true
  | _, .bl _ => true
  | _, .int _ => true
  | _, .str _ => true
  | n + 1, .tup xs => shalL n xs
  | n + 1, .lst xs => shalL n xs
  | _, _ => false
def shalL : Nat → List D → Bool
  | _, [] => true
  | n, x :: xs => shal n x && shalL n xs
end
mutual
def toP : D → PyData
  | .non => .none
  | .bl b => .bool b
  | .int i => .int i
  | .str s => .str ⟨s.toArray⟩
  | .tup xs => .tuple (toPs xs)
  | .lst xs => .list (toPs xs)
  | .ref _ => .none
  | .scr _ => .none
  | .dic _ _ => .none
  | .dit _ _ => .none
def toPs : List D → List PyData
  | [] => []
  | x :: xs => toP x :: toPs xs
end
theorem beq_str (x y : List Nat) : ((⟨x.toArray⟩ : Str) == ⟨y.toArray⟩) = (x == y) := by
  rw [Bool.eq_iff_iff]
  simp
mutual
theorem eqv_toP : ∀ (n m : Nat) (a b : D), shal n a = true → shal m b = true → PyData.eqv (toP a) (toP b) = eqD a b
  | n, m, a, b, ha, hb => by
    cases a with
    | non => cases b <;> first | (simp [shal] at hb; done) | simp [toP, eqD, PyData.eqv]
    | bl i => cases b <;> first | (simp [shal] at hb; done) | simp [toP, eqD, PyData.eqv]
    | int i => cases b <;> first | (simp [shal] at hb; done) | simp [toP, eqD, PyData.eqv]
    | str x => cases b <;> first | (simp [shal] at hb; done) | simp [toP, eqD, PyData.eqv, beq_str]
    | ref i => simp [shal] at ha
    | scr i => simp [shal] at ha
    | dic _ _ => simp [shal] at ha
    | dit _ _ => simp [shal] at ha
    | tup xs =>
      cases n with
      | zero => simp [shal] at ha
      | succ n =>
        cases b with
        | tup ys =>
          cases m with
          | zero => simp [shal] at hb
          | succ m => simpa [toP, eqD, PyData.eqv] using eqv_toPs n m xs ys (by simpa [shal] using ha) (by simpa [shal] using hb)
        | _ => first | (simp [shal] at hb; done) | simp [toP, eqD, PyData.eqv]
    | lst xs =>
      cases n with
      | zero => simp [shal] at ha
      | succ n =>
        cases b with
        | lst ys =>
          cases m with
          | zero => simp [shal] at hb
          | succ m => simpa [toP, eqD, PyData.eqv] using eqv_toPs n m xs ys (by simpa [shal] using ha) (by simpa [shal] using hb)
        | _ => first | (simp [shal] at hb; done) | simp [toP, eqD, PyData.eqv]
theorem eqv_toPs : ∀ (n m : Nat) (xs ys : List D), shalL n xs = true → shalL m ys = true → PyData.eqvAll (toPs xs) (toPs ys) = eqL xs ys
  | n, m, [], [], _, _ => by simp [toPs, eqL, PyData.eqvAll]
  | n, m, [], _ :: _, _, _ => by simp [toPs, eqL, PyData.eqvAll]
  | n, m, _ :: _, [], _, _ => by simp [toPs, eqL, PyData.eqvAll]
  | n, m, x :: xs, y :: ys, hx, hy => by
    simp only [shalL, Bool.and_eq_true] at hx hy
    simp only [toPs, eqL, PyData.eqvAll]
    rw [eqv_toP n m x y hx.1 hy.1, eqv_toPs n m xs ys hx.2 hy.2]
end
mutual
theorem depth_toP : ∀ (n : Nat) (a : D), shal n a = true → (toP a).depth ≤ n
  | n, .non, _ => by simp [toP, PyData.depth]
  | n, .bl _, _ => by simp [toP, PyData.depth]
  | n, .int _, _ => by simp [toP, PyData.depth]
  | n, .str _, _ => by simp [toP, PyData.depth]
  | n, .ref _, h => by simp [shal] at h
  | n, .scr _, h => by simp [shal] at h
  | n, .dic _ _, h => by simp [shal] at h
  | n, .dit _ _, h => by simp [shal] at h
  | 0, .tup xs, h => by simp [shal] at h
  | 0, .lst xs, h => by simp [shal] at h
  | n + 1, .tup xs, h => by
    have := depth_toPs n xs (by simpa [shal] using h)
    simp [toP, PyData.depth]; omega
  | n + 1, .lst xs, h => by
    have := depth_toPs n xs (by simpa [shal] using h)
    simp [toP, PyData.depth]; omega
theorem depth_toPs : ∀ (n : Nat) (xs : List D), shalL n xs = true → PyData.depthAll (toPs xs) ≤ n
  | n, [], _ => by simp [toPs, PyData.depthAll]
  | n, x :: xs, h => by
    simp only [shalL, Bool.and_eq_true] at h
    have h1 := depth_toP n x h.1
    have h2 := depth_toPs n xs h.2
    simp [toPs, PyData.depthAll]; omega
end
section
variable {K : PySem.W.Frag} {rho : List Addr} {F : Addr → Prop} {H : Hp}
mutual
theorem RD.dp : ∀ (n : Nat) {v : V} {d : D}, RD K rho F H v d → shal n d = true → Dp K H v (toP d) ∧ (toP d).canLay0 = true
  | n, _, _, .non, _ => ⟨.non, by simp [toP, PyData.canLay0]⟩
  | n, _, _, .bl b, _ => ⟨.bl b, by simp [toP, PyData.canLay0]⟩
  | n, _, _, .int i, _ => ⟨.int i, by simp [toP, PyData.canLay0]⟩
  | n, _, _, .str l ok, _ => ⟨.str _, by simpa [toP, PyData.canLay0, PyData.strOk] using ok.2⟩
  | 0, _, _, .tup h r, q => by simp [shal] at q
  | n + 1, _, _, .tup h r, q => by
    obtain ⟨a, b⟩ := RDs.dp n r (by simpa [shal] using q)
    exact ⟨.tup (SqT.of h) a, by simpa [toP, PyData.canLay0] using b⟩
  | 0, _, _, .lst f h r, q => by simp [shal] at q
  | n + 1, _, _, .lst f h r, q => by
    obtain ⟨a, b⟩ := RDs.dp n r (by simpa [shal] using q)
    exact ⟨.lst (.inl (.inl h)) a, by simpa [toP, PyData.canLay0] using b⟩
  | n, _, _, .ref h, q => by simp [shal] at q
  | n, _, _, .scr h, q => by simp [shal] at q
  | n, _, _, .dic _ _ _ _, q => by simp [shal] at q
  | n, _, _, .dit _ _ _ _, q => by simp [shal] at q
theorem RDs.dp : ∀ (n : Nat) {vs : List V} {ds : List D}, RDs K rho F H vs ds → shalL n ds = true → DpAll K H vs (toPs ds) ∧ PyData.canLayAll0 (toPs ds) = true
  | n, _, _, .nil, _ => ⟨.nil, by simp [toPs, PyData.canLayAll0]⟩
  | n, _, _, .cons a r, q => by
    simp only [shalL, Bool.and_eq_true] at q
    obtain ⟨a1, a2⟩ := RD.dp n a q.1
    obtain ⟨b1, b2⟩ := RDs.dp n r q.2
    exact ⟨.cons a1 b1, by simp [toPs, PyData.canLayAll0, a2, b2]⟩
end
end
def eqM : V2 := fun h a b => if shal 60 (vw h a) && shal 60 (vw h b) then some (.bl (eqD (vw h a) (vw h b))) else none
def neM : V2 := fun h a b => if shal 60 (vw h a) && shal 60 (vw h b) then some (.bl (!eqD (vw h a) (vw h b))) else none
section
variable {X : Cx} {C : Cn}
theorem vw_dp {rho : List Addr} {F : Addr → Prop} {h : Hs} {H : Hp} (g : GR C rho F h H) {v : V} {d : D} (r : RD C.K rho F H v d) (q : shal 60 (vw h d) = true) : Dp C.K H v (toP (vw h d)) ∧ SeqAt.shaped (toP (vw h d)) = true := by
  have sh : ∀ (a : D), shal 60 a = true → (toP a).canLay0 = true → SeqAt.shaped (toP a) = true := fun a h1 h2 => by
    have h3 := depth_toP 60 a h1
    show ((toP a).canLay0 && decide ((toP a).depth ≤ 64)) = true
    rw [h2, decide_eq_true (by omega)]
    rfl
  cases e : vw h d with
  | lst xs =>
    obtain ⟨a, vs, q1, q2, q3⟩ := vw_lst g r e
    rw [e] at q
    obtain ⟨b1, b2⟩ := RDs.dp 59 q3 (by simpa [shal] using q)
    subst q1
    have c2 : (toP (.lst xs)).canLay0 = true := by simpa [toP, PyData.canLay0] using b2
    exact ⟨.lst (.inl (.inl q2)) b1, sh _ q c2⟩
  | _ =>
    have z : d = vw h d := by
      cases d with
      | ref i => rcases vw_ref (rfl : vw h (.ref i) = _) with ⟨ys, z, o⟩ | z
                 · rw [z] at e; cases e
                 · exact z.symm
      | _ => rfl
    rw [← e, ← z]
    rw [← z] at q
    obtain ⟨b1, b2⟩ := RD.dp 60 r q
    exact ⟨b1, sh _ q b2⟩
theorem op_eqM (hK : X.K = C.K) (hu : X.A.units + 64 < cLine) : OpR X (compareOp .Eq) (RV2 C eqM) := by
  intro pins s σ H x y v u Q I rx ry q
  obtain ⟨rho, F, h, a, b, d, g, ra, rb, e, k⟩ := q
  unfold eqM at e
  split at e
  · rename_i z
    cases e
    simp only [Bool.and_eq_true] at z
    obtain ⟨d1, c1⟩ := vw_dp g ra z.1
    obtain ⟨d2, c2⟩ := vw_dp g rb z.2
    refine op_eqD hu pins s σ H x y v u Q I rx ry ⟨_, _, by rw [hK]; exact d1, by rw [hK]; exact d2, c1, c2, ?_⟩
    rw [eqv_toP 60 60 _ _ z.1 z.2]
    exact k.here g (.bl _)
  · cases e
theorem op_neM (hK : X.K = C.K) (hu : X.A.units + 64 < cLine) : OpR X (compareOp .NotEq) (RV2 C neM) := by
  intro pins s σ H x y v u Q I rx ry q
  obtain ⟨rho, F, h, a, b, d, g, ra, rb, e, k⟩ := q
  unfold neM at e
  split at e
  · rename_i z
    cases e
    simp only [Bool.and_eq_true] at z
    obtain ⟨d1, c1⟩ := vw_dp g ra z.1
    obtain ⟨d2, c2⟩ := vw_dp g rb z.2
    refine op_neD hu pins s σ H x y v u Q I rx ry ⟨_, _, by rw [hK]; exact d1, by rw [hK]; exact d2, c1, c2, ?_⟩
    rw [eqv_toP 60 60 _ _ z.1 z.2]
    exact k.here g (.bl _)
  · cases e
end
end NC

namespace NC
open PySem PySem.Spec L2
open PyProof.Rows hiding St
section
variable {X : Cx} {C : Cn} {W : WX} {a b c e : Expr} {es : List Expr} {ma mb mc : ME D} {pos : Pos}
def mErr {α : Type} : ME α := fun _ _ _ => .err
theorem me_err : PM X C W e mErr := ⟨⟨fun _ _ _ _ _ _ ⟨_, _, _, _, _, _, _, q⟩ => q.elim⟩, fun _ _ _ _ => trivial⟩
theorem mb_err : PMB X C W e mErr := ⟨⟨fun _ _ _ _ _ _ ⟨_, _, _, _, _, _, _, q⟩ => q.elim⟩, fun _ _ _ _ => trivial⟩
def mC (d : D) : ME D := fun _ _ h => .ok d h
theorem gd_c {d : D} : Gd (mC d) := fun _ _ _ _ => Lw.refl
theorem me_c {v : V} {d : D} (p : PE X e (tC v)) (r : ∀ rho F H, RD C.K rho F H v d) : PM X C W e (mC d) :=
  ⟨pe_imp p fun σ H Q ⟨rho, F, s, fl, h, hs, hg, ok⟩ => ok rho F H Ext.refl hg v (r rho F H), gd_c⟩
theorem me_int {i : Int} {j : Nat} : PM X C W (.Constant (.int i) j pos) (mC (.int i)) := me_c pe_int fun _ _ _ => .int i
theorem me_bl {i : Bool} {j : Nat} : PM X C W (.Constant (.bool i) j pos) (mC (.bl i)) := me_c pe_bl fun _ _ _ => .bl i
theorem me_non {j : Nat} : PM X C W (.Constant .none j pos) (mC .non) := me_c pe_non fun _ _ _ => .non
theorem me_str {x : Str} {j : Nat} (l : List Nat) (h : x = ⟨l.toArray⟩ := by decide +kernel) (ok : l.length ≤ 16777216 ∧ ∀ c ∈ l, c < 0x110000 := by decide) : PM X C W (.Constant (.str x) j pos) (mC (.str l)) := by
  subst h
  exact me_c pe_str fun _ _ _ => .str l ok
def slot : SS → Nat → Option D
  | [], _ => none
  | x :: _, 0 => x
  | _ :: xs, n + 1 => slot xs n
theorem slot_some : ∀ {s : SS} {i : Nat} {d : D}, slot s i = some d → s[i]? = some (some d)
  | [], _, _, h => by simp [slot] at h
  | _ :: _, 0, _, h => by simp [slot] at h; simp [h]
  | _ :: xs, n + 1, _, h => by simpa using slot_some (s := xs) h
def mV (i : Nat) : ME D := fun s _ h => ofO (slot s i) h
theorem me_v (i : Nat) {x : Str} (hN : X.N[i]? = some x := by rfl) (hv : Vis X.env.scope x := by first | exact Or.inl rfl | exact Or.inr (Or.inl rfl) | exact Or.inr (Or.inr rfl)) (hd : (x == ("__debug__" : Str)) = false := by decide)
    (hcd : (x == ("__classdict__" : Str)) = false := by decide) : PM X C W (.Name x pos) (mV i) := by
  refine ⟨pe_imp (pe_var hN hv hd hcd) fun σ H Q ⟨rho, F, s, fl, h, hs, hg, ok⟩ => ?_, fun s fl h hf => gd_ofO _⟩
  unfold mV at ok
  cases q : slot s i with
  | none => rw [q] at ok; exact ok.elim
  | some d =>
    rw [q] at ok
    obtain ⟨v, h1, h2⟩ := hs.2 i d (slot_some q)
    exact ⟨v, h1, ok rho F H Ext.refl hg v h2⟩
/-- a value's truth -/
def truD (h : Hs) (d : D) : Option Bool := match d with
  | .non => some false
  | .bl b => some b
  | .int i => some (i != 0)
  | .str l => some (!l.isEmpty)
  | .tup l => some (!l.isEmpty)
  | .lst l => some (!l.isEmpty)
  | .ref i => match h[i]? with
    | some (.lst l) => some (!l.isEmpty)
    | some (.dk l) => some (!l.isEmpty)
    | _ => none
  | .scr _ => none
  | .dic _ _ => none
  | .dit _ _ => none
def ofB (o : Option Bool) (h : Hs) : R Bool := match o with
  | some d => .ok d h
  | none => .err
@[simp] theorem ofB_some (d : Bool) (h : Hs) : ofB (some d) h = .ok d h := rfl
@[simp] theorem ofB_none (h : Hs) : ofB none h = .err := rfl
theorem gd_ofB {fl : Nat} {h : Hs} (o : Option Bool) : GdR fl h (ofB o h) := by
  cases o with
  | none => trivial
  | some d => exact Lw.refl
def mT (m : ME D) : ME Bool := fun s fl h => (m s fl h).bind fun d h1 => ofB (truD h1 d) h1
/-- a test whose value is True or False -/
def blD : D → Option Bool
  | .bl b => some b
  | _ => none
def mTb (m : ME D) : ME Bool := fun s fl h => (m s fl h).bind fun d h1 => ofB (blD d) h1
theorem gd_T {m : ME D} (a : Gd m) : Gd (mT m) := gd_bind a fun d => fun s fl h hf => gd_ofB _
theorem gd_Tb {m : ME D} (a : Gd m) : Gd (mTb m) := gd_bind a fun d => fun s fl h hf => gd_ofB _
theorem isEmpty_eq {α β : Type} {l : List α} {m : List β} (h : l.length = m.length) : l.isEmpty = m.isEmpty := by
  cases l <;> cases m <;> simp_all
theorem tru_ok {K : PySem.W.Frag} (hK : K = C.K) {rho : List Addr} {F : Addr → Prop} {h : Hs} {H : Hp} (g : GR C rho F h H) {v : V} {d : D} (r : RD C.K rho F H v d) {k : Bool} (e : truD h d = some k) : TruV K v H k := by
  subst hK
  cases r with
  | non => cases e; rfl
  | bl b => cases e; rfl
  | int i => cases e; rfl
  | str l ok =>
    cases e
    refine ⟨by rw [sizeLine_is]; exact ok.1, ?_⟩
    show (!l.isEmpty) = (((l.length : Nat) : Int) != 0)
    cases l with
    | nil => rfl
    | cons x xs => 
      have : (((x :: xs).length : Nat) : Int) ≠ 0 := by simp only [List.length_cons]; omega
      exact (bne_iff_ne.mpr this).symm
  | tup q r =>
    cases e
    exact .inr (.inl ⟨_, SqT.of q, by rw [isEmpty_eq r.length]⟩)
  | lst f q r =>
    cases e
    exact .inl ⟨_, SqL.of q, by rw [isEmpty_eq r.length]⟩
  | scr q => cases e
  | dit _ _ _ _ => cases e
  | dic _ _ _ _ => cases e
  | ref q =>
    rename_i i a
    unfold truD at e
    simp only at e
    cases o : h[i]? with
    | none => simp [o] at e
    | some ob =>
      have z := g.ob i ob a o q
      cases ob with
      | lst ys =>
        simp only [o, Option.some.injEq] at e
        obtain ⟨vs, q1, q2⟩ := z
        exact .inl ⟨vs, SqL.of q1, by rw [← e, isEmpty_eq q2.length]⟩
      | dk ys =>
        simp only [o, Option.some.injEq] at e
        obtain ⟨vs, q1, q2⟩ := z
        exact .inr (.inr ⟨vs, q1, by rw [← e, isEmpty_eq (Paired.length q2)]⟩)
      | dt _ => simp [o] at e
      | ins _ _ => simp [o] at e
theorem mb_truth (hK : X.K = C.K) (ha : PM X C W a ma) (he : ∀ whole, isTrue a X.env whole = (do let v ← whole; standAt a.pos; holding [v] (truthy v)) := by intro _; rfl) : PMB X C W a (mT ma) := by
  refine ⟨pt_imp (pt_truth ha.pe he) fun σ H Q ⟨rho, F, s, fl, h, hs, hg, ok⟩ => ⟨rho, F, s, fl, h, hs, hg, ok.bind.imp fun d h1 rho1 F1 H1 e1 g1 ok1 v r1 => ?_⟩, gd_T ha.gd⟩
  cases o : truD h1 d with
  | none => rw [o] at ok1; exact ok1.elim
  | some k =>
    rw [o] at ok1
    exact ⟨k, tru_ok hK g1 r1 o, ok1 _ _ _ Ext.refl g1⟩
theorem mb_cmp {op : CmpOp} {f : V2} (ho : OpR X (compareOp op) (RV2 C f)) (ha : PM X C W a ma) (hb : PM X C W b mb) (hm : behindInMarks op b = false) : PMB X C W (.Compare a [op] [b] pos) (mTb (mBin f ma mb)) := by
  refine ⟨pt_imp (pt_cmpR ho ha.pe hb.pe hm) fun σ H Q ⟨rho, F, s, fl, h, hs, hg, ok⟩ => ?_, gd_Tb (gd_bin ha.gd hb.gd)⟩
  refine tm_bin ⟨rho, F, s, fl, h, hs, hg, ok.bind.imp fun d h1 rho1 F1 H1 e1 g1 ok1 v r1 => ?_⟩
  cases r1 with
  | bl k => exact ⟨k, rfl, ok1 _ _ _ Ext.refl g1⟩
  | _ => exact ok1.elim
def mAnd (ma mb : ME Bool) : ME Bool := fun s fl h => (ma s fl h).bind fun k h1 => if k then mb s fl h1 else .ok false h1
def mOr (ma mb : ME Bool) : ME Bool := fun s fl h => (ma s fl h).bind fun k h1 => if k then .ok true h1 else mb s fl h1
def mNot (ma : ME Bool) : ME Bool := fun s fl h => (ma s fl h).bind fun k h1 => .ok (!k) h1
variable {ta tb tc : ME Bool} {rest : List Expr}
theorem gd_and (x : Gd ta) (y : Gd tb) : Gd (mAnd ta tb) := gd_bind x fun k => fun s fl h hf => by
  cases k
  · exact Lw.refl
  · exact y s fl h hf
theorem gd_or (x : Gd ta) (y : Gd tb) : Gd (mOr ta tb) := gd_bind x fun k => fun s fl h hf => by
  cases k
  · exact y s fl h hf
  · exact Lw.refl
theorem gd_not (x : Gd ta) : Gd (mNot ta) := gd_bind x fun k => fun s fl h hf => Lw.refl
theorem mw_and1 (x : PMB X C W a ta) : PMW X C W (.BoolOp .And [a] pos) ta := ⟨pw_and1 x.pt, x.gd⟩
theorem mw_or1 (x : PMB X C W a ta) : PMW X C W (.BoolOp .Or [a] pos) ta := ⟨pw_or1 x.pt, x.gd⟩
theorem mw_and (x : PMB X C W a ta) (y : PMW X C W (.BoolOp .And (b :: rest) pos) tb) : PMW X C W (.BoolOp .And (a :: b :: rest) pos) (mAnd ta tb) := by
  refine ⟨pw_imp (pw_and x.pt y.pw) fun σ H Q ⟨rho, F, s, fl, h, hs, hg, ok⟩ => ⟨rho, F, s, fl, h, hs, hg, ok.bind.imp fun k h1 rho1 F1 H1 e1 g1 ok1 => ?_⟩, gd_and x.gd y.gd⟩
  cases k
  · exact ok1 _ _ _ Ext.refl g1
  · exact ⟨rho1, F1, s, fl, h1, hs.ext e1, g1, ok1⟩
theorem mw_or (x : PMB X C W a ta) (y : PMW X C W (.BoolOp .Or (b :: rest) pos) tb) : PMW X C W (.BoolOp .Or (a :: b :: rest) pos) (mOr ta tb) := by
  refine ⟨pw_imp (pw_or x.pt y.pw) fun σ H Q ⟨rho, F, s, fl, h, hs, hg, ok⟩ => ⟨rho, F, s, fl, h, hs, hg, ok.bind.imp fun k h1 rho1 F1 H1 e1 g1 ok1 => ?_⟩, gd_or x.gd y.gd⟩
  cases k
  · exact ⟨rho1, F1, s, fl, h1, hs.ext e1, g1, ok1⟩
  · exact ok1 _ _ _ Ext.refl g1
theorem PMW.pmb (x : PMW X C W a ta) : PMB X C W a ta := ⟨x.pw.pt, x.gd⟩
theorem mb_not (x : PMB X C W a ta) : PMB X C W (.UnaryOp .Not a pos) (mNot ta) := by
  refine ⟨pt_imp (pt_not x.pt) fun σ H Q ⟨rho, F, s, fl, h, hs, hg, ok⟩ => ⟨rho, F, s, fl, h, hs, hg, ok.bind.imp fun k h1 rho1 F1 H1 e1 g1 ok1 => ok1 _ _ _ Ext.refl g1⟩, gd_not x.gd⟩
/-- .. as values, of True and False -/
def mAndV (ma mb : ME D) : ME D := fun s fl h => (ma s fl h).bind fun d h1 => match blD d with
  | some true => mb s fl h1
  | some false => .ok (.bl false) h1
  | none => .err
def mOrV (ma mb : ME D) : ME D := fun s fl h => (ma s fl h).bind fun d h1 => match blD d with
  | some true => .ok (.bl true) h1
  | some false => mb s fl h1
  | none => .err
def mNotV (ma : ME D) : ME D := fun s fl h => (ma s fl h).bind fun d h1 => match blD d with
  | some k => .ok (.bl (!k)) h1
  | none => .err
theorem blD_rd {K : PySem.W.Frag} {rho : List Addr} {F : Addr → Prop} {H : Hp} {v : V} {d : D} {k : Bool} (r : RD K rho F H v d) (e : blD d = some k) : v = .bl k := by
  cases r <;> cases e
  rfl
theorem me_one {op : BoolOp} (x : PM X C W a ma) : PM X C W (.BoolOp op [a] pos) ma := ⟨pe_one x.pe, x.gd⟩
theorem me_and (x : PM X C W a ma) (y : PM X C W (.BoolOp .And (b :: rest) pos) mb) : PM X C W (.BoolOp .And (a :: b :: rest) pos) (mAndV ma mb) := by
  refine ⟨pe_imp (pe_and x.pe y.pe) fun σ H Q ⟨rho, F, s, fl, h, hs, hg, ok⟩ => ⟨rho, F, s, fl, h, hs, hg, ok.bind.imp fun d h1 rho1 F1 H1 e1 g1 ok1 v r1 => ?_⟩, gd_bind x.gd fun d => fun s fl h hf => ?_⟩
  · cases o : blD d with
    | none => rw [o] at ok1; exact ok1.elim
    | some k =>
      rw [o] at ok1
      refine ⟨k, blD_rd r1 o, ?_⟩
      cases k
      · exact ok1 _ _ _ Ext.refl g1 _ (.bl _)
      · exact ⟨rho1, F1, s, fl, h1, hs.ext e1, g1, ok1⟩
  · cases blD d with
    | none => trivial
    | some k =>
      cases k
      · exact Lw.refl
      · exact y.gd s fl h hf
theorem me_or (x : PM X C W a ma) (y : PM X C W (.BoolOp .Or (b :: rest) pos) mb) : PM X C W (.BoolOp .Or (a :: b :: rest) pos) (mOrV ma mb) := by
  refine ⟨pe_imp (pe_or x.pe y.pe) fun σ H Q ⟨rho, F, s, fl, h, hs, hg, ok⟩ => ⟨rho, F, s, fl, h, hs, hg, ok.bind.imp fun d h1 rho1 F1 H1 e1 g1 ok1 v r1 => ?_⟩, gd_bind x.gd fun d => fun s fl h hf => ?_⟩
  · cases o : blD d with
    | none => rw [o] at ok1; exact ok1.elim
    | some k =>
      rw [o] at ok1
      refine ⟨k, blD_rd r1 o, ?_⟩
      cases k
      · exact ⟨rho1, F1, s, fl, h1, hs.ext e1, g1, ok1⟩
      · exact ok1 _ _ _ Ext.refl g1 _ (.bl _)
  · cases blD d with
    | none => trivial
    | some k =>
      cases k
      · exact y.gd s fl h hf
      · exact Lw.refl
theorem me_not (x : PM X C W a ma) : PM X C W (.UnaryOp .Not a pos) (mNotV ma) := by
  refine ⟨pe_imp (pe_not x.pe) fun σ H Q ⟨rho, F, s, fl, h, hs, hg, ok⟩ => ⟨rho, F, s, fl, h, hs, hg, ok.bind.imp fun d h1 rho1 F1 H1 e1 g1 ok1 v r1 => ?_⟩, gd_bind x.gd fun d => fun s fl h hf => ?_⟩
  · cases o : blD d with
    | none => rw [o] at ok1; exact ok1.elim
    | some k => rw [o] at ok1; exact ⟨k, blD_rd r1 o, ok1 _ _ _ Ext.refl g1 _ (.bl _)⟩
  · cases blD d with
    | none => trivial
    | some k => exact Lw.refl
def mIf {α : Type} (t : ME Bool) (ma mb : ME α) : ME α := fun s fl h => (t s fl h).bind fun k h1 => if k then ma s fl h1 else mb s fl h1
theorem gd_if {α : Type} {p q : ME α} (x : Gd tc) (y : Gd p) (z : Gd q) : Gd (mIf tc p q) := gd_bind x fun k => fun s fl h hf => by
  cases k
  · exact z s fl h hf
  · exact y s fl h hf
theorem me_if (x : PMB X C W c tc) (y : PM X C W a ma) (z : PM X C W b mb) : PM X C W (.IfExp c a b pos) (mIf tc ma mb) := by
  refine ⟨pe_imp (pe_ifExp x.pt y.pe z.pe) fun σ H Q ⟨rho, F, s, fl, h, hs, hg, ok⟩ => ⟨rho, F, s, fl, h, hs, hg, ok.bind.imp fun k h1 rho1 F1 H1 e1 g1 ok1 => ?_⟩, gd_if x.gd y.gd z.gd⟩
  cases k
  · exact ⟨rho1, F1, s, fl, h1, hs.ext e1, g1, ok1⟩
  · exact ⟨rho1, F1, s, fl, h1, hs.ext e1, g1, ok1⟩
/-- a < b < c -/
def mChain (f f' : V2) (ma mb mc : ME D) : ME D := fun s fl h => (ma s fl h).bind fun x h1 => (mb s fl h1).bind fun y h2 => match (f h2 x y).bind blD with
  | some true => (mc s fl h2).bind fun z h3 => ofO (f' h3 y z) h3
  | some false => .ok (.bl false) h2
  | none => .err
theorem gd_chain {f f' : V2} (x : Gd ma) (y : Gd mb) (z : Gd mc) : Gd (mChain f f' ma mb mc) := gd_bind x fun d => gd_bind y fun d2 => fun s fl h hf => by
  cases (f h d d2).bind blD with
  | none => trivial
  | some k =>
    cases k
    · exact Lw.refl
    · exact (z s fl h hf).bind fun v h3 _ => gd_ofO _
theorem tm_chain {f f' : V2} {σ : St} {H : Hp} {Q : VK} (q : TM C W (mChain f f' ma mb mc) σ H Q) : tChain (RV2 C f) (RV2 C f') (TM C W ma) (TM C W mb) (TM C W mc) σ H Q := by
  obtain ⟨rho, F, s, fl, h, hs, hg, ok⟩ := q
  refine ⟨rho, F, s, fl, h, hs, hg, ok.bind.imp fun x h1 rho1 F1 H1 e1 g1 ok1 v r1 => ?_⟩
  refine ⟨rho1, F1, s, fl, h1, hs.ext e1, g1, ok1.bind.imp fun y h2 rho2 F2 H2 e2 g2 ok2 u r2 => ?_⟩
  cases o : f h2 x y with
  | none => rw [o] at ok2; exact ok2.elim
  | some d =>
    rw [o] at ok2
    refine ⟨rho2, F2, h2, x, y, d, g2, RD.ext e2 r1, r2, o, fun w F3 H3 e3 g3 r3 => ?_⟩
    cases o2 : blD d with
    | none => simp only [Option.bind_some, o2] at ok2; exact ok2.elim
    | some k =>
      simp only [Option.bind_some, o2] at ok2
      refine ⟨k, blD_rd r3 o2, ?_⟩
      cases k
      · exact ok2 rho2 F3 H3 e3 g3 _ (.bl _)
      · refine ⟨rho2, F3, s, fl, h2, (hs.ext (e1.trans (e2.trans e3))), g3, (OkX.ext e3 ok2.bind).imp fun z h4 rho4 F4 H4 e4 g4 ok4 t r4 => ?_⟩
        cases o5 : f' h4 y z with
        | none => rw [o5] at ok4; exact ok4.elim
        | some d5 =>
          rw [o5] at ok4
          exact ⟨rho4, F4, h4, y, z, d5, g4, RD.ext (e3.trans e4) r2, r4, o5, fun w F5 H5 e5 g5 r5 => ok4 rho4 F5 H5 e5 g5 w r5⟩
theorem me_chain {op op' : CmpOp} {f f' : V2} (ho : OpR X (compareOp op) (RV2 C f)) (ho' : OpR X (compareOp op') (RV2 C f')) (x : PM X C W a ma) (y : PM X C W b mb) (z : PM X C W c mc) (hm : lastMarks [op, op'] [b, c] = false := by with_unfolding_all rfl) :
    PM X C W (.Compare a [op, op'] [b, c] pos) (mChain f f' ma mb mc) := ⟨pe_imp (pe_chain ho ho' x.pe y.pe z.pe hm) fun _ _ _ q => tm_chain q, gd_chain x.gd y.gd z.gd⟩
theorem mb_chain {op op' : CmpOp} {f f' : V2} (ho : OpR X (compareOp op) (RV2 C f)) (ho' : OpR X (compareOp op') (RV2 C f')) (x : PM X C W a ma) (y : PM X C W b mb) (z : PM X C W c mc) (hm : lastMarks [op, op'] [b, c] = false := by with_unfolding_all rfl) :
    PMB X C W (.Compare a [op, op'] [b, c] pos) (mTb (mChain f f' ma mb mc)) := by
  refine ⟨pt_imp (pt_chain ho ho' x.pe y.pe z.pe hm) fun σ H Q ⟨rho, F, s, fl, h, hs, hg, ok⟩ => ?_, gd_Tb (gd_chain x.gd y.gd z.gd)⟩
  refine tm_chain ⟨rho, F, s, fl, h, hs, hg, ok.bind.imp fun d h1 rho1 F1 H1 e1 g1 ok1 v r1 => ?_⟩
  cases r1 with
  | bl k => exact ⟨k, rfl, ok1 _ _ _ Ext.refl g1⟩
  | _ => exact ok1.elim
def mNil : ME (List D) := fun _ _ h => .ok [] h
def mCons (ma : ME D) (mr : ME (List D)) : ME (List D) := fun s fl h => (ma s fl h).bind fun x h1 => (mr s fl h1).bind fun xs h2 => .ok (x :: xs) h2
variable {mr : ME (List D)}
theorem ma_nil : PMA X C W [] mNil := ⟨pa_imp pa_nil fun σ H Q ⟨rho, F, s, fl, h, hs, hg, ok⟩ => ok rho F H Ext.refl hg [] .nil, fun _ _ _ _ => Lw.refl, fun _ _ _ _ _ e => by cases e; rfl⟩
theorem ma_cons (x : PM X C W e ma) (y : PMA X C W es mr) (hs : starEach (e :: es) X.env = (false, eval e X.env) :: starEach es X.env := by rfl) : PMA X C W (e :: es) (mCons ma mr) := by
  refine ⟨pa_imp (pa_cons x.pe y.pa hs) fun σ H Q ⟨rho, F, s, fl, h, hs, hg, ok⟩ => ⟨rho, F, s, fl, h, hs, hg, ok.bind.imp fun d h1 rho1 F1 H1 e1 g1 ok1 v r1 => ?_⟩, gd_bind x.gd fun d => gd_bind y.gd fun ds => fun s fl h hf => Lw.refl, fun s fl h ds h' q => ?_⟩
  rotate_left
  · unfold mCons at q
    cases o : ma s fl h with
    | ok d h1 =>
      rw [o] at q
      simp only [R.bind_ok] at q
      cases o2 : mr s fl h1 with
      | ok ds1 h2 =>
        rw [o2] at q
        cases q
        simp [y.ln _ _ _ _ _ o2]
      | exc _ _ => rw [o2] at q; cases q
      | err => rw [o2] at q; cases q
    | exc _ _ => rw [o] at q; cases q
    | err => rw [o] at q; cases q
  exact ⟨rho1, F1, s, fl, h1, hs.ext e1, g1, ok1.bind.imp fun ds h2 rho2 F2 H2 e2 g2 ok2 vs r2 => ok2 _ _ _ Ext.refl g2 _ (.cons (RD.ext e2 r1) r2)⟩
/-- a new tuple, a new list that is not written, a new list to write -/
def mTup (mr : ME (List D)) : ME D := fun s fl h => (mr s fl h).bind fun ds h1 => if ds.length ≤ 16777216 then .ok (.tup ds) h1 else .err
def mLstF (mr : ME (List D)) : ME D := fun s fl h => (mr s fl h).bind fun ds h1 => if ds.length ≤ 16777216 then .ok (.lst ds) h1 else .err
def mLstM (mr : ME (List D)) : ME D := fun s fl h => (mr s fl h).bind fun ds h1 => if ds.length ≤ 16777216 then .ok (.ref h1.length) (h1 ++ [.lst ds]) else .err
theorem gd_if_ok {α : Type} {fl : Nat} {h : Hs} {p : Prop} [Decidable p] {r : R α} (x : GdR fl h r) : GdR fl h (if p then r else .err) := by
  split
  · exact x
  · trivial
theorem GR.push {rho : List Addr} {F : Addr → Prop} {h : Hs} {H : Hp} {p : Addr} {o : Ob} {u : HO} (g : GR C rho F h H) (hp : H p = none) (x : ObR C (rho ++ [p]) F (upd H p u) p o) :
    GR C (rho ++ [p]) F (h ++ [o]) (upd H p u) ∧ Ext C.K rho F H (rho ++ [p]) F (upd H p u) := by
  have np := g.notNew hp
  have ex : Ext C.K rho F H (rho ++ [p]) F (upd H p u) := Ext.at (fun _ q => q) (fun a f => let ⟨_, z⟩ := g.ft a f; ne_of_none z hp) (fun a xs z => ne_of_none z hp) (fun a o u z => ne_of_none z hp)
  refine ⟨⟨by simp [g.len], ?_, fun a ha f => ?_, fun a f => ?_, fun i o' a e1 e2 => ?_⟩, ex⟩
  · rw [List.nodup_append]
    refine ⟨g.nd, by simp, fun a ha b hb e => ?_⟩
    simp at hb
    subst hb
    exact np (e ▸ ha)
  · rcases List.mem_append.mp ha with q | q
    · exact g.nf a q f
    · simp at q
      subst q
      obtain ⟨o1, e1⟩ := g.ft a f
      rw [hp] at e1
      cases e1
  · by_cases e : a = p
    · subst e; exact ⟨_, upd_same⟩
    · rw [upd_ne e]; exact g.ft a f
  · by_cases hi : i < h.length
    · rw [List.getElem?_append_left hi] at e1
      rw [List.getElem?_append_left (by rw [g.len]; exact hi)] at e2
      have ne : a ≠ p := fun z => np (z ▸ List.mem_of_getElem? e2)
      exact (g.ob i o' a e1 e2).ext ex (upd_ne ne)
    · have hi' : i = h.length := by
        have := (List.getElem?_eq_some_iff.mp e1).1
        simp at this
        omega
      subst hi'
      simp at e1
      rw [← g.len] at e2
      simp at e2
      subst e1 e2
      exact x
theorem me_tup {x1 : _} (y : PMA X C W es mr) : PM X C W (.Tuple es x1 pos) (mTup mr) := by
  refine ⟨pe_imp (pe_tup y.pa) fun σ H Q ⟨rho, F, s, fl, h, hs, hg, ok⟩ => ⟨rho, F, s, fl, h, hs, hg, ok.bind.imp fun ds h1 rho1 F1 H1 e1 g1 ok1 vs r1 => ?_⟩, gd_bind y.gd fun d => fun s fl h hf => gd_if_ok Lw.refl⟩
  split at ok1
  · rename_i hz
    refine ⟨by rw [sizeLine_is, r1.length]; exact hz, fun p hp => ok1 _ _ _ (Ext.newT hp g1.ft) (g1.newT hp) _ (RD.newT hp g1.ft r1)⟩
  · exact ok1.elim
theorem me_lstF (y : PMA X C W es mr) : PM X C W (.List es pos) (mLstF mr) := by
  refine ⟨pe_imp (pe_lst y.pa) fun σ H Q ⟨rho, F, s, fl, h, hs, hg, ok⟩ => ⟨rho, F, s, fl, h, hs, hg, ok.bind.imp fun ds h1 rho1 F1 H1 e1 g1 ok1 vs r1 => ?_⟩, gd_bind y.gd fun d => fun s fl h hf => gd_if_ok Lw.refl⟩
  split at ok1
  · rename_i hz
    refine ⟨by rw [sizeLine_is, r1.length]; exact hz, fun p hp => ok1 _ _ _ (Ext.newL hp g1.ft) (g1.newL hp) _ (RD.newL hp g1.ft r1)⟩
  · exact ok1.elim
theorem me_lstM (y : PMA X C W es mr) : PM X C W (.List es pos) (mLstM mr) := by
  refine ⟨pe_imp (pe_lst y.pa) fun σ H Q ⟨rho, F, s, fl, h, hs, hg, ok⟩ => ⟨rho, F, s, fl, h, hs, hg, ok.bind.imp fun ds h1 rho1 F1 H1 e1 g1 ok1 vs r1 => ?_⟩, gd_bind y.gd fun d => fun s fl h hf => gd_if_ok (Lw.push hf _)⟩
  split at ok1
  · rename_i hz
    refine ⟨by rw [sizeLine_is, r1.length]; exact hz, fun p hp => ?_⟩
    have ex : Ext C.K rho1 F1 H1 (rho1 ++ [p]) F1 (upd H1 p (.lst vs)) := Ext.at (fun _ q => q) (fun a f => let ⟨_, z⟩ := g1.ft a f; ne_of_none z hp) (fun a xs z => ne_of_none z hp) (fun a o u z => ne_of_none z hp)
    obtain ⟨g2, e2⟩ := g1.push (o := .lst ds) (u := .lst vs) hp ⟨vs, upd_same, RDs.ext ex r1⟩
    exact ok1 _ _ _ e2 g2 _ (.ref (by rw [← g1.len]; simp))
  · exact ok1.elim
end
end NC

namespace NC
open PySem PySem.Spec L2
open PyProof.Rows hiding St
def int2 (f : Int → Int → Option D) : V2 := fun h a b => match a, b with
  | .int i, .int j => f i j
  | _, _ => none
def subD : V2 := int2 fun i j => some (.int (i - j))
def mulI (i j : Int) : Option D := if (-18446744073709551616 < i ∧ i < 18446744073709551616) ∨ (-18446744073709551616 < j ∧ j < 18446744073709551616) then some (.int (i * j)) else none
/-- text * n, list * n, tuple * n, n * n -/
def mulD : V2 := fun h a b => match vw h a, b with
  | .int i, .int j => mulI i j
  | .str x, .int k => if x.length * k.toNat ≤ 16777216 ∧ k < 9223372036854775808 ∧ -9223372036854775808 ≤ k then some (.str (List.replicate k.toNat x).flatten) else none
  | .lst x, .int k => if x.length * k.toNat ≤ 16777216 ∧ k < 9223372036854775808 ∧ -9223372036854775808 ≤ k then some (.lst (List.replicate k.toNat x).flatten) else none
  | .tup x, .int k => if x.length * k.toNat ≤ 16777216 ∧ k < 9223372036854775808 ∧ -9223372036854775808 ≤ k then some (.tup (List.replicate k.toNat x).flatten) else none
  | _, _ => none
def divD : V2 := int2 fun i j => if 0 < j ∧ j < 1073741824 then some (.int (i / j)) else none
def modD : V2 := int2 fun i j => if 0 < j then some (.int (i % j)) else none
def powD : V2 := int2 fun i j => if 0 ≤ j ∧ j ≤ 1000000 ∧ i.natAbs < 18446744073709551616 then some (.int (i ^ j.toNat)) else none
/-- texts by their codes -/
def ltS (x y : List Nat) : Bool := decide (x < y)
def ltM : V2 := fun h a b => match a, b with
  | .int i, .int j => some (.bl (decide (i < j)))
  | .str x, .str y => some (.bl (ltS x y))
  | _, _ => none
def leM : V2 := fun h a b => match a, b with
  | .int i, .int j => some (.bl (decide (i ≤ j)))
  | .str x, .str y => some (.bl (!ltS y x))
  | _, _ => none
def gtM : V2 := fun h a b => match a, b with
  | .int i, .int j => some (.bl (decide (j < i)))
  | .str x, .str y => some (.bl (ltS y x))
  | _, _ => none
def geM : V2 := fun h a b => match a, b with
  | .int i, .int j => some (.bl (decide (j ≤ i)))
  | .str x, .str y => some (.bl (!ltS x y))
  | _, _ => none
def isNM : V2 := fun _ a b => match a, b with
  | .non, .non => some (.bl true)
  | .ref _, .non => some (.bl false)
  | .int _, .non => some (.bl false)
  | .tup _, .non => some (.bl false)
  | .lst _, .non => some (.bl false)
  | .str _, .non => some (.bl false)
  | .bl _, .non => some (.bl false)
  | _, _ => none
def notNM : V2 := fun _ a b => match a, b with
  | .non, .non => some (.bl false)
  | .ref _, .non => some (.bl true)
  | .int _, .non => some (.bl true)
  | .tup _, .non => some (.bl true)
  | .lst _, .non => some (.bl true)
  | .str _, .non => some (.bl true)
  | .bl _, .non => some (.bl true)
  | _, _ => none
section
variable {X : Cx} {C : Cn}
theorem opI2 {g : Value → Value → Sem Value} {f : Int → Int → Option D} (k : ∀ pins s σ H x y v u (Q : VK), Inv X pins σ H s → RelV x v → RelV y u → ∀ i j d, x = V.int i → y = V.int j → f i j = some d → (∀ w : V, (∀ rho F, RD C.K rho F H w d) → Q w H) → wpAny (model X.prog X.w) X.A (g v u) (EP X pins σ Q) X.xe s) :
    OpR X g (RV2 C (int2 f)) := by
  intro pins s σ H x y v u Q I rx ry q
  obtain ⟨rho, F, h, a, b, d, g, ra, rb, e, fin⟩ := q
  unfold int2 at e
  split at e
  · rename_i i j
    cases ra
    cases rb
    exact k pins s σ H _ _ v u Q I rx ry i j d rfl rfl e fun w r => fin.here g (r rho F)
  · cases e
theorem op_subD : OpR X (binaryOp .Sub) (RV2 C subD) := opI2 fun pins s σ H x y v u Q I rx ry i j d ex ey e k => by
  cases e
  exact op_sub pins s σ H x y v u Q I rx ry ⟨i, j, ex, ey, k _ fun _ _ => .int _⟩
theorem op_divD : OpR X (binaryOp .FloorDiv) (RV2 C divD) := opI2 fun pins s σ H x y v u Q I rx ry i j d ex ey e k => by
  split at e
  · rename_i z
    cases e
    exact op_fdiv pins s σ H x y v u Q I rx ry ⟨i, j, ex, ey, z, k _ fun _ _ => .int _⟩
  · cases e
theorem op_modD : OpR X (binaryOp .Mod) (RV2 C modD) := opI2 fun pins s σ H x y v u Q I rx ry i j d ex ey e k => by
  split at e
  · rename_i z
    cases e
    exact op_mod pins s σ H x y v u Q I rx ry ⟨i, j, ex, ey, z, k _ fun _ _ => .int _⟩
  · cases e
theorem op_powD : OpR X (binaryOp .Pow) (RV2 C powD) := opI2 fun pins s σ H x y v u Q I rx ry i j d ex ey e k => by
  split at e
  · rename_i z
    cases e
    exact op_pow pins s σ H x y v u Q I rx ry ⟨i, j, ex, ey, ⟨z.1, z.2.1, z.2.2⟩, k _ fun _ _ => .int _⟩
  · cases e
theorem opIS {g : Value → Value → Sem Value} {f : Hs → D → D → Option D} {p : Int → Int → Bool} {p2 : List Nat → List Nat → Bool} (hf : ∀ h a b d, f h a b = some d → (∃ i j, a = .int i ∧ b = .int j ∧ d = .bl (p i j)) ∨ (∃ x y, a = .str x ∧ b = .str y ∧ d = .bl (p2 x y)))
    (k1 : OpR X g (rI0 fun i j => .bl (p i j))) (k2 : OpR X g (fun x y H Q => ∃ i j : Str, x = .str i ∧ y = .str j ∧ Q (.bl (p2 i.cps.toList j.cps.toList)) H)) : OpR X g (RV2 C f) := by
  intro pins s σ H x y v u Q I rx ry q
  obtain ⟨rho, F, h, a, b, d, g, ra, rb, e, fin⟩ := q
  rcases hf h a b d e with ⟨i, j, rfl, rfl, rfl⟩ | ⟨i, j, rfl, rfl, rfl⟩
  · cases ra
    cases rb
    exact k1 pins s σ H _ _ v u Q I rx ry ⟨i, j, rfl, rfl, fin.here g (.bl _)⟩
  · cases ra
    cases rb
    exact k2 pins s σ H _ _ v u Q I rx ry ⟨_, _, rfl, rfl, fin.here g (.bl _)⟩
theorem op_ltM : OpR X (compareOp .Lt) (RV2 C ltM) := opIS (p := fun i j => decide (i < j)) (p2 := ltS) (fun h a b d e => by
  unfold ltM at e
  split at e <;> cases e
  · exact .inl ⟨_, _, rfl, rfl, rfl⟩
  · exact .inr ⟨_, _, rfl, rfl, rfl⟩) op_lt op_lt_str
theorem op_leM : OpR X (compareOp .LtE) (RV2 C leM) := opIS (p := fun i j => decide (i ≤ j)) (p2 := fun x y => !ltS y x) (fun h a b d e => by
  unfold leM at e
  split at e <;> cases e
  · exact .inl ⟨_, _, rfl, rfl, rfl⟩
  · exact .inr ⟨_, _, rfl, rfl, rfl⟩) op_le op_le_str
theorem op_gtM : OpR X (compareOp .Gt) (RV2 C gtM) := opIS (p := fun i j => decide (j < i)) (p2 := fun x y => ltS y x) (fun h a b d e => by
  unfold gtM at e
  split at e <;> cases e
  · exact .inl ⟨_, _, rfl, rfl, rfl⟩
  · exact .inr ⟨_, _, rfl, rfl, rfl⟩) op_gt op_gt_str
theorem op_geM : OpR X (compareOp .GtE) (RV2 C geM) := opIS (p := fun i j => decide (j ≤ i)) (p2 := fun x y => !ltS x y) (fun h a b d e => by
  unfold geM at e
  split at e <;> cases e
  · exact .inl ⟨_, _, rfl, rfl, rfl⟩
  · exact .inr ⟨_, _, rfl, rfl, rfl⟩) op_ge op_ge_str
theorem op_isNM : OpR X (compareOp .Is) (RV2 C isNM) := by
  intro pins s σ H x y v u Q I rx ry q
  obtain ⟨rho, F, h, a, b, d, g, ra, rb, e, fin⟩ := q
  refine op_isN pins s σ H x y v u Q I rx ry ?_
  unfold isNM at e
  split at e <;> cases e <;> cases rb <;> cases ra <;> exact ⟨rfl, fin.here g (.bl _)⟩
theorem op_notNM : OpR X (compareOp .IsNot) (RV2 C notNM) := by
  intro pins s σ H x y v u Q I rx ry q
  obtain ⟨rho, F, h, a, b, d, g, ra, rb, e, fin⟩ := q
  refine op_notN pins s σ H x y v u Q I rx ry ?_
  unfold notNM at e
  split at e <;> cases e <;> cases rb <;> cases ra <;> exact ⟨rfl, fin.here g (.bl _)⟩
end
def ixD : V2 := fun h a b => match vw h a, b with
  | .lst xs, .int i => atI xs i
  | .tup xs, .int i => atI xs i
  | .str l, .int i => (atI l i).map fun c => .str [c]
  | _, _ => none
theorem RDs.atI {K : PySem.W.Frag} {rho : List Addr} {F : Addr → Prop} {H : Hp} {vs : List V} {ds : List D} (r : RDs K rho F H vs ds) {i : Int} {d : D} (e : L2.atI ds i = some d) : ∃ v, L2.atI vs i = some v ∧ RD K rho F H v d := by
  unfold L2.atI at e ⊢
  rw [r.length]
  cases o : ixN ds.length i with
  | none => rw [o] at e; cases e
  | some j =>
    rw [o] at e
    exact r.get e
theorem TxOk.mem {l : List Nat} (ok : TxOk l) {c : Nat} (h : c ∈ l) : TxOk [c] := ⟨by simp, fun x hx => by simp at hx; subst hx; exact ok.2 _ h⟩
theorem atI_mem {α : Type} {l : List α} {i : Int} {c : α} (e : L2.atI l i = some c) : c ∈ l := by
  obtain ⟨j, _, h, _⟩ := atI_get e
  exact List.mem_of_getElem? h
section
variable {X : Cx} {C : Cn} {W : WX} {a b e : Expr} {ma mb : ME D} {pos : Pos}
theorem ix_D (hK : X.K = C.K) : IxR X (RV2 C ixD) := by
  intro value slice pins s σ H x y v u Q I rx ry q hs
  obtain ⟨rho, F, h, a, b, d, g, ra, rb, e, k⟩ := q
  unfold ixD at e
  split at e
  · rename_i xs i e1
    cases rb
    obtain ⟨p, vs, q1, q2, q3⟩ := vw_lst g ra e1
    obtain ⟨w, h1, h2⟩ := q3.atI e
    exact ix_list value slice pins s σ H x _ v u Q I rx ry ⟨p, vs, i, w, q1, rfl, SqL.of q2, h1, k.here g h2⟩ hs
  · rename_i xs i e1
    cases rb
    obtain ⟨p, vs, q1, q2, q3⟩ := vw_tup ra e1
    obtain ⟨w, h1, h2⟩ := q3.atI e
    exact ix_tup value slice pins s σ H x _ v u Q I rx ry ⟨p, vs, i, w, q1, rfl, SqT.of q2, h1, k.here g h2⟩ hs
  · rename_i l i e1
    cases rb
    obtain ⟨q1, ok⟩ := vw_str ra e1
    cases o : atI l i with
    | none => rw [o] at e; cases e
    | some c =>
      rw [o] at e
      cases e
      exact ix_str value slice pins s σ H x _ v u Q I rx ry ⟨_, i, c, q1, rfl, by rw [sizeLine_is]; exact ok.1, o, k.here g (.str [c] (ok.mem (atI_mem o)))⟩ hs
  · cases e
theorem me_ix (hK : X.K = C.K) (x : PM X C W a ma) (y : PM X C W b mb) (hs : PlainIx b := by intro _ _; rfl) : PM X C W (.Subscript a b pos) (mBin ixD ma mb) :=
  ⟨pe_imp (pe_ix (ix_D hK) x.pe y.pe hs) fun _ _ _ q => tm_bin q, gd_bin x.gd y.gd⟩
end
def mNoP : ME (Option Int) := fun _ _ h => .ok none h
def mPart (m : ME D) : ME (Option Int) := fun s fl h => (m s fl h).bind fun d h1 => match d with
  | .int i => .ok (some i) h1
  | _ => .err
def cut {α : Type} (xs : List α) (lo hi : Option Int) : List α := (xs.drop (HT.sIx xs.length 0 lo)).take (HT.sIx xs.length xs.length hi - HT.sIx xs.length 0 lo)
def slD (h : Hs) (d : D) (lo hi : Option Int) : Option D := match vw h d with
  | .lst xs => some (.lst (cut xs lo hi))
  | .tup xs => some (.tup (cut xs lo hi))
  | .str xs => some (.str (cut xs lo hi))
  | _ => none
def mSl (m : ME D) (l u : ME (Option Int)) : ME D := fun s fl h => (m s fl h).bind fun d h1 => (l s fl h1).bind fun lo h2 => (u s fl h2).bind fun hi h3 => ofO (slD h3 d lo hi) h3
def TO (C : Cn) (W : WX) (m : ME (Option Int)) : L2.TO := fun σ H Q => ∃ rho F s fl h, SR C.K rho F H σ s ∧ GR C rho F h H ∧ OkX C rho F H (fun o _ _ _ H' => Q o H') (fun c d H' => W c d σ H') (m s fl h)
structure PMO (X : Cx) (C : Cn) (W : WX) (e : Option Expr) (m : ME (Option Int)) : Prop where
  po : PO X e (TO C W m)
  gd : Gd m
section
variable {X : Cx} {C : Cn} {W : WX} {a b e : Expr} {ma mb : ME D} {pos p2 : Pos} {lo hi : Option Expr} {ml mh : ME (Option Int)}
theorem po_imp {t t' : L2.TO} (h : PO X lo t) (i : ∀ σ H Q, t' σ H Q → t σ H Q) : PO X lo t' := ⟨fun pins s σ H Q I q => h.run pins s σ H Q I (i σ H Q q)⟩
theorem mo_none : PMO X C W none mNoP := ⟨po_imp po_none fun σ H Q ⟨rho, F, s, fl, h, hs, hg, ok⟩ => ok _ _ _ Ext.refl hg, fun _ _ _ _ => Lw.refl⟩
theorem mo_some (x : PM X C W a ma) : PMO X C W (some a) (mPart ma) := by
  refine ⟨po_imp (po_some x.pe) fun σ H Q ⟨rho, F, s, fl, h, hs, hg, ok⟩ => ⟨rho, F, s, fl, h, hs, hg, ok.bind.imp fun d h1 rho1 F1 H1 e1 g1 ok1 v r1 => ?_⟩, gd_bind x.gd fun d => fun s fl h hf => ?_⟩
  · cases r1 with
    | int i => exact ⟨i, rfl, ok1 _ _ _ Ext.refl g1⟩
    | _ => exact ok1.elim
  · cases d <;> first | exact Lw.refl | trivial
theorem cut_rds {K : PySem.W.Frag} {rho : List Addr} {F : Addr → Prop} {H : Hp} {vs : List V} {ds : List D} (r : RDs K rho F H vs ds) (lo hi : Option Int) : RDs K rho F H (cutV vs lo hi) (cut ds lo hi) := by
  unfold cutV cut
  rw [r.length]
  exact (r.drop _).take _
theorem cut_sub {α : Type} (l : List α) (lo hi : Option Int) : ∀ x ∈ cut l lo hi, x ∈ l := fun x hx => List.mem_of_mem_drop (List.mem_of_mem_take hx)
theorem cut_len {α : Type} (l : List α) (lo hi : Option Int) : (cut l lo hi).length ≤ l.length := by
  unfold cut
  rw [List.length_take, List.length_drop]
  omega
theorem cut_whole {α : Type} {l : List α} {lo hi : Option Int} (h : HT.sIx l.length 0 lo = 0 ∧ HT.sIx l.length l.length hi = l.length) : cut l lo hi = l := by
  unfold cut
  rw [h.1, h.2]
  simp
def RSl (C : Cn) : V → Option Int → Option Int → Hp → VK → Prop := fun x lo hi H Q => ∃ rho F h a d, GR C rho F h H ∧ RD C.K rho F H x a ∧ slD h a lo hi = some d ∧ Fin1 C rho F h H d Q
theorem sl_D (hK : X.K = C.K) : SlR X (RSl C) := by
  intro pins s σ H x v vl vu lo hi sl Q I rx hs pl pu q
  obtain ⟨rho, F, h, a, d, g, ra, e, k⟩ := q
  unfold slD at e
  split at e
  · rename_i xs e1
    cases e
    obtain ⟨p, vs, q1, q2, q3⟩ := vw_lst g ra e1
    exact sl_list pins s σ H x v vl vu lo hi sl Q I rx hs pl pu ⟨p, vs, q1, SqL.of q2, k.newL g (cut_rds q3 lo hi)⟩
  · rename_i xs e1
    cases e
    obtain ⟨p, vs, q1, q2, q3⟩ := vw_tup ra e1
    refine sl_tupA pins s σ H x v vl vu lo hi sl Q I rx hs pl pu ⟨p, vs, q1, SqT.of q2, fun hw => ?_, fun _ => k.newT g (cut_rds q3 lo hi)⟩
    rw [q3.length] at hw
    rw [cut_whole hw] at k
    exact k.here g (.tup q2 q3)
  · rename_i xs e1
    cases e
    obtain ⟨q1, ok⟩ := vw_str ra e1
    refine sl_str pins s σ H x v vl vu lo hi sl Q I rx hs pl pu ⟨_, q1, by rw [sizeLine_is]; exact ok.1, ?_⟩
    exact k.here g (.str (cut xs lo hi) ⟨Nat.le_trans (cut_len _ _ _) ok.1, fun c hc => ok.2 c (cut_sub _ _ _ c hc)⟩)
  · cases e
theorem me_sl (hK : X.K = C.K) (x : PM X C W a ma) (y : PMO X C W lo ml) (z : PMO X C W hi mh) : PM X C W (.Subscript a (.Slice lo hi none p2) pos) (mSl ma ml mh) := by
  refine ⟨pe_imp (pe_slice (sl_D hK) x.pe y.po z.po) fun σ H Q ⟨rho, F, s, fl, h, hs, hg, ok⟩ => ⟨rho, F, s, fl, h, hs, hg, ok.bind.imp fun d h1 rho1 F1 H1 e1 g1 ok1 v r1 => ?_⟩, gd_bind x.gd fun d => gd_bind y.gd fun l => gd_bind z.gd fun u => fun s fl h hf => gd_ofO _⟩
  refine ⟨rho1, F1, s, fl, h1, hs.ext e1, g1, ok1.bind.imp fun l h2 rho2 F2 H2 e2 g2 ok2 => ?_⟩
  refine ⟨rho2, F2, s, fl, h2, hs.ext (e1.trans e2), g2, ok2.bind.imp fun u h3 rho3 F3 H3 e3 g3 ok3 => ?_⟩
  cases o : slD h3 d l u with
  | none => rw [o] at ok3; exact ok3.elim
  | some dd =>
    rw [o] at ok3
    exact ⟨rho3, F3, h3, d, dd, g3, RD.ext (e2.trans e3) r1, o, fun w F4 H4 e4 g4 r4 => ok3 rho3 F4 H4 e4 g4 w r4⟩
end
def fldD (c i : Nat) (h : Hs) (d : D) : Option D := match d with
  | .ref j => match h[j]? with
    | some (.ins c' fs) => if c' = c then slot fs i else none
    | _ => none
  | _ => none
def mFld (c i : Nat) (m : ME D) : ME D := fun s fl h => (m s fl h).bind fun d h1 => ofO (fldD c i h1 d) h1
section
variable {X : Cx} {C : Cn} {W : WX} {e : Expr} {m : ME D} {pos : Pos}
theorem fldD_at {rho : List Addr} {F : Addr → Prop} {h : Hs} {H : Hp} (g : GR C rho F h H) {c i : Nat} {v : V} {d dd : D} {f : Str} (r : RD C.K rho F H v d) (e : fldD c i h d = some dd) (hf : (C.fn c)[i]? = some f) :
    ∃ a dx ws w, v = .ref a ∧ H a = some (.ins (C.cl c) dx ws) ∧ ws.lookup f = some w ∧ RD C.K rho F H w dd := by
  unfold fldD at e
  split at e
  · rename_i j
    split at e
    · rename_i c' fs o
      split at e
      · rename_i hc
        subst hc
        cases r with
        | ref q =>
          obtain ⟨dx, ws, q1, q2, q3, q4, q5⟩ := g.ob _ _ _ o q
          have z := q5 i f (some dd) hf (slot_some e)
          cases o2 : ws.lookup f with
          | none => rw [o2] at z; exact z.elim
          | some w => rw [o2] at z; exact ⟨_, dx, ws, w, rfl, q1, o2, z⟩
      · cases e
    · cases e
  · cases e
theorem me_fld (hK : X.K = C.K) (c i : Nat) {f : Str} (x : PM X C W e m) (hf : (C.fn c)[i]? = some f) (cl : Cls X.K (C.cl c)) (na : NoAttr X.K (C.cl c) f) (hb : attributeBase e f X.env (eval e X.env) = eval e X.env := by rfl) :
    PM X C W (.Attribute e f pos) (mFld c i m) := by
  refine ⟨pe_imp (pe_fld x.pe hb) fun σ H Q ⟨rho, F, s, fl, h, hs, hg, ok⟩ => ⟨rho, F, s, fl, h, hs, hg, ok.bind.imp fun d h1 rho1 F1 H1 e1 g1 ok1 v r1 => ?_⟩, gd_bind x.gd fun d => fun s fl h hf => gd_ofO _⟩
  cases o : fldD c i h1 d with
  | none => rw [o] at ok1; exact ok1.elim
  | some dd =>
    rw [o] at ok1
    obtain ⟨a, dx, ws, w, q1, q2, q3, q4⟩ := fldD_at g1 r1 o hf
    exact ⟨a, _, dx, ws, w, q1, q2, cl, na, q3, ok1 _ _ _ Ext.refl g1 _ q4⟩
end
end NC

namespace NC
open PySem PySem.Spec L2
open PyProof.Rows hiding St
section
variable {X : Cx} {C : Cn} {W : WX} {a b e : Expr} {es : List Expr} {ma mb : ME D} {pos : Pos} {st : Stmt} {sts : List Stmt} {m n : MS}
def mErrS : MS := fun _ _ _ => .err
theorem ms_err : PMS X C W st mErrS := ⟨⟨fun _ _ _ _ _ _ ⟨_, _, _, _, _, _, _, q⟩ => q.elim⟩, fun _ _ _ _ => trivial⟩
theorem ml_err : PML X C W sts mErrS := ⟨⟨fun _ _ _ _ _ _ ⟨_, _, _, _, _, _, _, q⟩ => q.elim⟩, fun _ _ _ _ => trivial⟩
def mNext : MS := fun s _ h => .nx s h
def mSeq (m n : MS) : MS := fun s fl h => (m s fl h).seq fun s1 h1 => n s1 fl h1
theorem ml_nil : PML X C W [] mNext := ⟨pss_imp pss_nil fun D σ H ⟨rho, F, s, fl, h, hs, hg, ok⟩ => ok σ _ _ _ Ext.refl hg hs, fun s fl h hf => Lw.refl⟩
theorem ml_one (x : PMS X C W st m) : PML X C W [st] m := ⟨pss_one x.ps, x.gd⟩
theorem gd_seq (x : GdM m) (y : GdM n) : GdM (mSeq m n) := fun s fl h hf => (x s fl h hf).seq fun s1 h1 le => y s1 fl h1 (Nat.le_trans hf le)
theorem ml_cons (x : PMS X C W st m) (y : PML X C W sts n) : PML X C W (st :: sts) (mSeq m n) := by
  refine ⟨pss_imp (pss_cons x.ps y.ps) fun D σ H ⟨rho, F, s, fl, h, hs, hg, ok⟩ => ⟨rho, F, s, fl, h, hs, hg, ok.seq fun s1 h1 σ1 rho1 F1 H1 e1 g1 r1 ok1 => ?_⟩, gd_seq x.gd y.gd⟩
  exact ⟨rho1, F1, s1, fl, h1, r1, g1, ok1⟩
theorem ms_pass : PMS X C W (.Pass pos) mNext := ⟨ps_imp ps_pass fun D σ H ⟨rho, F, s, fl, h, hs, hg, ok⟩ => ok σ _ _ _ Ext.refl hg hs, fun s fl h hf => Lw.refl⟩
def mBrk : MS := fun s _ h => .bk s h
def mCnt : MS := fun s _ h => .ct s h
theorem ms_break : PMS X C W (.Break pos) mBrk := ⟨ps_imp ps_break fun D σ H ⟨rho, F, s, fl, h, hs, hg, ok⟩ => ok σ _ _ _ Ext.refl hg hs, fun s fl h hf => Lw.refl⟩
theorem ms_continue : PMS X C W (.Continue pos) mCnt := ⟨ps_imp ps_continue fun D σ H ⟨rho, F, s, fl, h, hs, hg, ok⟩ => ok σ _ _ _ Ext.refl hg hs, fun s fl h hf => Lw.refl⟩
def mExp (m : ME D) : MS := fun s fl h => (m s fl h).bindS s fun _ h1 => .nx s h1
theorem ms_expr (x : PM X C W e ma) (hs : swapsWith e none pos.line X.env = pure false := by rfl) : PMS X C W (.Expr e pos) (mExp ma) := by
  refine ⟨ps_imp (ps_expr x.pe hs) fun D σ H ⟨rho, F, s, fl, h, hs, hg, ok⟩ => ⟨rho, F, s, fl, h, hs, hg, (ok.bindS hs).imp fun d h1 rho1 F1 H1 e1 g1 ok1 v r1 => ?_⟩, fun s fl h hf => (x.gd s fl h hf).bindS fun d h1 _ => Lw.refl⟩
  exact ok1 σ _ _ _ Ext.refl g1 (hs.ext e1)
def mRet (m : ME D) : MS := fun s fl h => (m s fl h).bindS s fun d h1 => .rt d h1
theorem ms_ret (x : PM X C W e ma) : PMS X C W (.Return (some e) pos) (mRet ma) := by
  refine ⟨ps_imp (ps_ret x.pe) fun D σ H ⟨rho, F, s, fl, h, hs, hg, ok⟩ => ⟨rho, F, s, fl, h, hs, hg, (ok.bindS hs).imp fun d h1 rho1 F1 H1 e1 g1 ok1 v r1 => ok1 v _ _ _ Ext.refl g1 r1⟩, fun s fl h hf => (x.gd s fl h hf).bindS fun d h1 _ => Lw.refl⟩
def mRetN : MS := fun _ _ h => .rt .non h
theorem ms_retN : PMS X C W (.Return none pos) mRetN := ⟨ps_imp ps_retN fun D σ H ⟨rho, F, s, fl, h, hs, hg, ok⟩ => ok _ _ _ _ Ext.refl hg .non, fun s fl h hf => Lw.refl⟩
def mIfS (t : ME Bool) (m n : MS) : MS := fun s fl h => (t s fl h).bindS s fun k h1 => if k then m s fl h1 else n s fl h1
theorem gd_ifS {t : ME Bool} (x : Gd t) (y : GdM m) (z : GdM n) : GdM (mIfS t m n) := fun s fl h hf => (x s fl h hf).bindS fun k h1 le => by
  cases k
  · exact z s fl h1 (Nat.le_trans hf le)
  · exact y s fl h1 (Nat.le_trans hf le)
theorem ms_if {c : Expr} {as bs : List Stmt} {t : ME Bool} (x : PMB X C W c t) (y : PML X C W as m) (z : PML X C W bs n) : PMS X C W (.If c as bs pos) (mIfS t m n) := by
  refine ⟨ps_imp (ps_if x.pt y.ps z.ps) fun D σ H ⟨rho, F, s, fl, h, hs, hg, ok⟩ => ⟨rho, F, s, fl, h, hs, hg, (ok.bindS hs).imp fun k h1 rho1 F1 H1 e1 g1 ok1 => ?_⟩, gd_ifS x.gd y.gd z.gd⟩
  cases k
  · exact ⟨rho1, F1, s, fl, h1, hs.ext e1, g1, ok1⟩
  · exact ⟨rho1, F1, s, fl, h1, hs.ext e1, g1, ok1⟩
/-- a target's store; what it evaluates raises nothing -/
abbrev MG := D → SS → Nat → Hs → Option (SS × Hs)
def TGm (C : Cn) (g : MG) : TG := fun v σ H Q => ∃ rho F s fl h d, SR C.K rho F H σ s ∧ GR C rho F h H ∧ RD C.K rho F H v d ∧ ∃ s' h', g d s fl h = some (s', h') ∧ ∀ σ' rho' F' H', Ext C.K rho F H rho' F' H' → GR C rho' F' h' H' → SR C.K rho' F' H' σ' s' → Q σ' H'
def GdG (g : MG) : Prop := ∀ (d : D) (s : SS) (fl : Nat) (h : Hs) (s' : SS) (h' : Hs), fl ≤ h.length → g d s fl h = some (s', h') → Lw fl h h'
structure PMG (X : Cx) (C : Cn) (tg : Expr) (g : MG) : Prop where
  pg : PG X tg (TGm C g)
  gd : GdG g
theorem pg_imp {t t' : TG} {tg : Expr} (h : PG X tg t) (i : ∀ v σ H Q, t' v σ H Q → t v σ H Q) : PG X tg t' := ⟨fun pins s σ H v u Q I r q => h.run pins s σ H v u Q I r (i v σ H Q q)⟩
def gN (i : Nat) : MG := fun d s _ h => some (s.set i (some d), h)
theorem mg_name (i : Nat) {x : Str} (hN : X.N.Nodup) (hi : X.N[i]? = some x := by rfl) (hx : Loc X.env.scope x := by first | exact Or.inl rfl | exact Or.inr rfl) (hf : X.fn x = true ∨ X.env.scope.names.lookup x = some .local := by first | exact .inl rfl | exact .inr rfl | assumption) : PMG X C (.Name x pos) (gN i) := by
  refine ⟨pg_imp (pg_name hN hi hx hf) fun v σ H Q ⟨rho, F, s, fl, h, d, hs, hg, r, s', h', e, k⟩ => ?_, fun d s fl h s' h' hf e => ?_⟩
  · cases e
    exact k _ rho F H Ext.refl hg (hs.set i r)
  · cases e
    exact Lw.refl
abbrev MGs := List D → SS → Nat → Hs → Option (SS × Hs)
def TGsm (C : Cn) (g : MGs) : TGs := fun vs σ H Q => ∃ rho F s fl h ds, SR C.K rho F H σ s ∧ GR C rho F h H ∧ RDs C.K rho F H vs ds ∧ ∃ s' h', g ds s fl h = some (s', h') ∧ ∀ σ' rho' F' H', Ext C.K rho F H rho' F' H' → GR C rho' F' h' H' → SR C.K rho' F' H' σ' s' → Q σ' H'
structure PMGs (X : Cx) (C : Cn) (tgs : List Expr) (g : MGs) : Prop where
  pg : PGs X tgs (TGsm C g)
  gd : ∀ (d : List D) (s : SS) (fl : Nat) (h : Hs) (s' : SS) (h' : Hs), fl ≤ h.length → g d s fl h = some (s', h') → Lw fl h h'
theorem pgs_imp {t t' : TGs} {tgs : List Expr} (h : PGs X tgs t) (i : ∀ v σ H Q, t' v σ H Q → t v σ H Q) : PGs X tgs t' := ⟨fun pins s σ H v u Q I r q => h.run pins s σ H v u Q I r (i v σ H Q q)⟩
def gsNil : MGs := fun ds s _ h => match ds with
  | [] => some (s, h)
  | _ => none
def gsCons (g : MG) (gs : MGs) : MGs := fun ds s fl h => match ds with
  | d :: ds => (g d s fl h).bind fun p => gs ds p.1 fl p.2
  | [] => none
theorem mgs_nil : PMGs X C [] gsNil := by
  refine ⟨pgs_imp pgs_nil fun v σ H Q ⟨rho, F, s, fl, h, d, hs, hg, r, s', h', e, k⟩ => ?_, fun d s fl h s' h' hf e => ?_⟩
  · cases r with
    | nil => cases e; exact ⟨rfl, k _ rho F H Ext.refl hg hs⟩
    | cons _ _ => cases e
  · cases d with
    | nil => cases e; exact Lw.refl
    | cons _ _ => cases e
theorem mgs_cons {tg : Expr} {tgs : List Expr} {g : MG} {gs : MGs} (x : PMG X C tg g) (y : PMGs X C tgs gs) (hs : (assignEach (tg :: tgs) X.env).map (·.2) = assign tg X.env :: (assignEach tgs X.env).map (·.2) := by rfl) : PMGs X C (tg :: tgs) (gsCons g gs) := by
  refine ⟨pgs_imp (pgs_cons x.pg y.pg hs) fun v σ H Q ⟨rho, F, s, fl, h, d, hs, hg, r, s', h', e, k⟩ => ?_, fun d s fl h s' h' hf e => ?_⟩
  · cases r with
    | nil => cases e
    | @cons v1 vs1 d1 ds1 r1 r2 =>
      unfold gsCons at e
      simp only at e
      cases o : g d1 s fl h with
      | none => rw [o] at e; cases e
      | some p =>
        rw [o] at e
        obtain ⟨s1, h1⟩ := p
        refine ⟨v1, vs1, rfl, rho, F, s, fl, h, d1, hs, hg, r1, s1, h1, o, fun σ1 rho1 F1 H1 e1 g1 q1 => ?_⟩
        exact ⟨rho1, F1, s1, fl, h1, ds1, q1, g1, RDs.ext e1 r2, s', h', e, fun σ2 rho2 F2 H2 e2 g2 q2 => k σ2 rho2 F2 H2 (e1.trans e2) g2 q2⟩
  · cases d with
    | nil => cases e
    | cons d1 ds1 =>
      unfold gsCons at e
      simp only at e
      cases o : g d1 s fl h with
      | none => rw [o] at e; cases e
      | some p =>
        rw [o] at e
        have l1 := x.gd _ _ _ _ _ _ hf o
        exact l1.trans (y.gd _ _ _ _ _ _ (Nat.le_trans hf l1.le) e)
/-- a, b = a tuple, or a list -/
def gTp (n : Nat) (gs : MGs) : MG := fun d s fl h => match d with
  | .tup ds => if ds.length = n then gs ds s fl h else none
  | _ => none
def gLs (n : Nat) (gs : MGs) : MG := fun d s fl h => match vw h d with
  | .lst ds => if ds.length = n then gs ds s fl h else none
  | _ => none
theorem mg_tup (hK : X.K = C.K) {tgs : List Expr} {k n : Nat} {gs : MGs} (hc : X.calm = true) (y : PMGs X C tgs gs) (hn : (assignEach tgs X.env).length = n := by rfl) (hst : (assignEach tgs X.env).findIdx? (·.1) = none := by rfl) : PMG X C (.Tuple tgs k pos) (gTp n gs) := by
  refine ⟨pg_imp (pg_tup hc y.pg hn hst) fun v σ H Q ⟨rho, F, s, fl, h, d, hs, hg, r, s', h', e, kk⟩ => ?_, fun d s fl h s' h' hf e => ?_⟩
  · cases r with
    | tup q r =>
      unfold gTp at e
      simp only at e
      split at e
      · rename_i hz
        exact ⟨_, _, rfl, SqT.of q, by rw [r.length]; exact hz, rho, F, s, fl, h, _, hs, hg, r, s', h', e, kk⟩
      · cases e
    | _ => cases e
  · unfold gTp at e
    split at e
    · split at e
      · exact y.gd _ _ _ _ _ _ hf e
      · cases e
    · cases e
theorem mg_lst {tgs : List Expr} {k n : Nat} {gs : MGs} (hc : X.calm = true) (y : PMGs X C tgs gs) (hn : (assignEach tgs X.env).length = n := by rfl) (hst : (assignEach tgs X.env).findIdx? (·.1) = none := by rfl) : PMG X C (.Tuple tgs k pos) (gLs n gs) := by
  refine ⟨pg_imp (pg_lst hc y.pg hn hst) fun v σ H Q ⟨rho, F, s, fl, h, d, hs, hg, r, s', h', e, kk⟩ => ?_, fun d s fl h s' h' hf e => ?_⟩
  · unfold gLs at e
    split at e
    · rename_i ds e1
      split at e
      · rename_i hz
        obtain ⟨a, vs, q1, q2, q3⟩ := vw_lst hg r e1
        exact ⟨a, vs, q1, SqL.of q2, by rw [q3.length]; exact hz, rho, F, s, fl, h, ds, hs, hg, q3, s', h', e, kk⟩
      · cases e
    · cases e
  · unfold gLs at e
    split at e
    · split at e
      · exact y.gd _ _ _ _ _ _ hf e
      · cases e
    · cases e
/-- o.f = e as a target -/
def wrOk (fl i : Nat) (d : D) : Bool := decide (fl ≤ i) || d.low 0
def setF (c i : Nat) (d : D) (fl : Nat) (h : Hs) (o : D) : Option Hs := match o with
  | .ref j => match h[j]? with
    | some (.ins c' fs) => if c' = c ∧ i < fs.length ∧ wrOk fl j d = true then some (h.set j (.ins c (fs.set i (some d)))) else none
    | _ => none
  | _ => none
def ofG (o : Option (SS × Hs)) : RS := match o with
  | some p => .nx p.1 p.2
  | none => .err
/-- target = value -/
def mAsg (m : ME D) (g : MG) : MS := fun s fl h => (m s fl h).bindS s fun d h1 => ofG (g d s fl h1)
theorem gd_asg {g : MG} (x : Gd ma) (y : GdG g) : GdM (mAsg ma g) := fun s fl h hf => (x s fl h hf).bindS fun d h1 le => by
  cases o : g d s fl h1 with
  | none => trivial
  | some p => exact y _ _ _ _ _ _ (Nat.le_trans hf le) o
theorem tq_asg {g : MG} {D : Ends} {σ : St} {H : Hp} (q : TQ C W (mAsg ma g) D σ H) : tAsg (TM C W ma) (TGm C g) D σ H := by
  obtain ⟨rho, F, s, fl, h, hs, hg, ok⟩ := q
  refine ⟨rho, F, s, fl, h, hs, hg, (ok.bindS hs).imp fun d h1 rho1 F1 H1 e1 g1 ok1 v r1 => ?_⟩
  cases o : g d s fl h1 with
  | none => rw [o] at ok1; exact ok1.elim
  | some p =>
    obtain ⟨s', h'⟩ := p
    rw [o] at ok1
    exact ⟨rho1, F1, s, fl, h1, d, hs.ext e1, g1, r1, s', h', o, fun σ2 rho2 F2 H2 e2 g2 q2 => ok1 σ2 rho2 F2 H2 e2 g2 q2⟩
theorem ms_asg {tg : Expr} {g : MG} (x : PM X C W e ma) (y : PMG X C tg g) (hs : swapsWithSole [tg] e pos.line X.env = pure false := by rfl) (hw : swappedStores [tg] e X.env = pure none := by rfl)
    (h1 : (assignEach [tg] X.env).map (·.2) = [assign tg X.env] := by rfl) : PMS X C W (.Assign [tg] e pos) (mAsg ma g) :=
  ⟨ps_imp (ps_asg x.pe y.pg hs hw h1) fun D σ H q => tq_asg q, gd_asg x.gd y.gd⟩
/-- x = e -/
theorem ms_set (i : Nat) {x : Str} {pos' : Pos} (y : PM X C W e ma) (hN : X.N.Nodup) (hi : X.N[i]? = some x := by rfl) (hx : Loc X.env.scope x := by first | exact Or.inl rfl | exact Or.inr rfl) (hs : swapsWith e (some (.Name x pos')) pos.line X.env = pure false := by rfl) (hf : X.fn x = true ∨ X.env.scope.names.lookup x = some .local := by first | exact .inl rfl | exact .inr rfl | assumption) :
    PMS X C W (.Assign [.Name x pos'] e pos) (mAsg ma (gN i)) := by
  refine ⟨ps_imp (ps_set hN hi hx y.pe hs hf) fun D σ H ⟨rho, F, s, fl, h, hs, hg, ok⟩ => ⟨rho, F, s, fl, h, hs, hg, (ok.bindS hs).imp fun d h1 rho1 F1 H1 e1 g1 ok1 v r1 => ?_⟩, gd_asg y.gd (mg_name (X := X) (C := C) (pos := pos') i hN hi hx hf).gd⟩
  exact ok1 _ rho1 F1 H1 Ext.refl g1 ((hs.ext e1).set i r1)
/-- a, b = e1, e2 -/
def mPar (i j : Nat) (m : ME (List D)) : MS := fun s fl h => (m s fl h).bindS s fun ds h1 => match ds with
  | [x, y] => .nx ((s.set i (some x)).set j (some y)) h1
  | _ => .err
theorem ms_par (i j : Nat) {x y : Str} {mr : ME (List D)} {px py pt : Pos} {kt k2 pt2} (z : PMA X C W [a, b] mr) (hc : X.calm = true) (hN : X.N.Nodup) (hi : X.N[i]? = some x := by rfl) (hj : X.N[j]? = some y := by rfl) (hij : i ≠ j := by decide)
    (hx : X.env.scope.names.lookup x = some .local := by rfl) (hy : X.env.scope.names.lookup y = some .local := by rfl)
    (hw : swappedStores [.Tuple [.Name x px, .Name y py] kt pt] (.Tuple [a, b] k2 pt2) X.env = pure (some [x, y]) := by rfl)
    (hs : swapsWithSole [.Tuple [.Name x px, .Name y py] kt pt] (.Tuple [a, b] k2 pt2) pos.line X.env = pure false := by rfl) :
    PMS X C W (.Assign [.Tuple [.Name x px, .Name y py] kt pt] (.Tuple [a, b] k2 pt2) pos) (mPar i j mr) := by
  refine ⟨ps_imp (ps_par hc hN hi hj hij hx hy z.pa hw hs) fun D σ H ⟨rho, F, s, fl, h, hs, hg, ok⟩ => ⟨rho, F, s, fl, h, hs, hg, (ok.bindS hs).imp fun ds h1 rho1 F1 H1 e1 g1 ok1 vs r1 => ?_⟩, fun s fl h hf => (z.gd s fl h hf).bindS fun ds h1 le => ?_⟩
  · cases r1 with
    | nil => exact ok1.elim
    | cons a r1 =>
      cases r1 with
      | nil => exact ok1.elim
      | cons b r1 =>
        cases r1 with
        | nil => exact ⟨_, _, rfl, ok1 _ rho1 F1 H1 Ext.refl g1 (((hs.ext e1).set i a).set j b)⟩
        | cons c r1 => exact ok1.elim
  · split
    · exact Lw.refl
    · trivial
/-- x op= e -/
def mAug (i : Nat) (f : V2) (m : ME D) : MS := fun s fl h => match slot s i with
  | none => .err
  | some x => (m s fl h).bindS s fun y h1 => match f h1 x y with
    | some z => .nx (s.set i (some z)) h1
    | none => .err
theorem ms_aug (i : Nat) {x : Str} {op : Operator} {f : V2} {pos' : Pos} (ho : OpR X (inplaceOp op) (RV2 C f)) (z : PM X C W e ma) (hN : X.N.Nodup) (hi : X.N[i]? = some x := by rfl) (hx : Loc X.env.scope x := by first | exact Or.inl rfl | exact Or.inr rfl) (hf : X.fn x = true ∨ X.env.scope.names.lookup x = some .local := by first | exact .inl rfl | exact .inr rfl | assumption) :
    PMS X C W (.AugAssign (.Name x pos') op e pos) (mAug i f ma) := by
  refine ⟨ps_imp (ps_aug hN hi hx z.pe (ti := fun x y H Q => RV2 C f x y H Q) (fun pins s σ H x y v u Q I rx ry q => ho pins s σ H x y v u Q I rx ry q) hf) fun D σ H ⟨rho, F, s, fl, h, hs, hg, ok⟩ => ?_, fun s fl h hf => ?_⟩
  · unfold mAug at ok
    cases o : slot s i with
    | none => rw [o] at ok; exact ok.elim
    | some d =>
      rw [o] at ok
      obtain ⟨v, q1, q2⟩ := hs.2 i d (slot_some o)
      refine ⟨v, q1, rho, F, s, fl, h, hs, hg, (ok.bindS hs).imp fun y h1 rho1 F1 H1 e1 g1 ok1 u r1 => ?_⟩
      cases o2 : f h1 d y with
      | none => rw [o2] at ok1; exact ok1.elim
      | some z =>
        rw [o2] at ok1
        exact ⟨rho1, F1, h1, d, y, z, g1, RD.ext e1 q2, r1, o2, fun w F2 H2 e2 g2 r2 => ok1 _ rho1 F2 H2 e2 g2 (((hs.ext e1).ext e2).set i r2)⟩
  · unfold mAug
    cases o : slot s i with
    | none => trivial
    | some d =>
      refine (z.gd s fl h hf).bindS fun y h1 le => ?_
      cases f h1 d y with
      | none => trivial
      | some z => exact Lw.refl
end
/-- what a for walks: the items, known ahead -/
def Yd (C : Cn) (J : It) (ds : List D) (rho0 : List Addr) (F0 : Addr → Prop) (H0 : Hp) : Prop :=
  ∀ (rho : List Addr) (F : Addr → Prop) (h : Hs) (H : Hp), Ext C.K rho0 F0 H0 rho F H → GR C rho F h H → (∀ i, i < ds.length → J.go i H) ∧ J.stop ds.length H ∧
    ∀ (i : Nat) (d : D) (x : V) (H' : Hp), ds[i]? = some d → J.yld i H x H' → ∃ F', Ext C.K rho F H rho F' H' ∧ GR C rho F' h H' ∧ RD C.K rho F' H' x d
def TIm (C : Cn) (W : WX) (m : ME (List D)) : TI := fun σ H R => ∃ rho F s fl h, SR C.K rho F H σ s ∧ GR C rho F h H ∧ OkX C rho F H (fun ds h1 rho1 F1 H1 => ∀ J, Yd C J ds rho1 F1 H1 → R J H1) (fun c d H' => W c d σ H') (m s fl h)
structure PMI (X : Cx) (C : Cn) (W : WX) (tg iter : Expr) (m : ME (List D)) : Prop where
  pi : PI X tg iter (TIm C W m)
  gd : Gd m
theorem pi_imp {X : Cx} {tg iter : Expr} {t t' : TI} (h : PI X tg iter t) (i : ∀ σ H R, t' σ H R → t σ H R) : PI X tg iter t' := ⟨fun pins s σ H R I q => h.run pins s σ H R I (i σ H R q)⟩
def mForL (g : MG) (body : MS) : List D → MS
  | [], s, _, h => .nx s h
  | d :: ds, s, fl, h => match g d s fl h with
    | none => .err
    | some p => match body p.1 fl p.2 with
      | .nx s2 h2 => mForL g body ds s2 fl h2
      | .ct s2 h2 => mForL g body ds s2 fl h2
      | .bk s2 h2 => .nx s2 h2
      | .rt d h2 => .rt d h2
      | .exc e s2 h2 => .exc e s2 h2
      | .err => .err
def mFor (mi : ME (List D)) (g : MG) (body : MS) : MS := fun s fl h => (mi s fl h).bindS s fun ds h1 => mForL g body ds s fl h1
theorem gd_forL {g : MG} {body : MS} (y : GdG g) (z : GdM body) : ∀ ds, GdM (mForL g body ds)
  | [] => fun s fl h hf => Lw.refl
  | d :: ds => fun s fl h hf => by
    unfold mForL
    cases o : g d s fl h with
    | none => trivial
    | some p =>
      have l1 := y _ _ _ _ _ _ hf o
      have hf1 := Nat.le_trans hf l1.le
      have q := z p.1 fl p.2 hf1
      simp only
      cases o2 : body p.1 fl p.2 with
      | nx s2 h2 => rw [o2] at q; exact (gd_forL y z ds s2 fl h2 (Nat.le_trans hf1 (Lw.le q))).weak (l1.trans q)
      | ct s2 h2 => rw [o2] at q; exact (gd_forL y z ds s2 fl h2 (Nat.le_trans hf1 (Lw.le q))).weak (l1.trans q)
      | bk s2 h2 => rw [o2] at q; exact l1.trans q
      | rt s2 h2 => rw [o2] at q; exact l1.trans q
      | exc e s2 h2 => rw [o2] at q; exact l1.trans q
      | err => trivial
section
variable {X : Cx} {C : Cn} {W : WX} {tg iter : Expr} {body : List Stmt} {mi : ME (List D)} {g : MG} {mb : MS} {pos : Pos}
theorem ms_for (hp : PassesOwn (model X.prog X.w) X.A X.env X.xe) (hc : X.calm = true) (x : PMI X C W tg iter mi) (y : PMG X C tg g) (z : PML X C W body mb) (hs : ∀ x, foldedSetIterable iter X.env x = pure x := by intro _; rfl) :
    PMS X C W (.For tg iter body [] pos) (mFor mi g mb) := by
  refine ⟨ps_imp (ps_for hp hc x.pi y.pg z.ps hs) fun D σ H ⟨rho, F, s, fl, h, hs, hg, ok⟩ => ⟨rho, F, s, fl, h, hs, hg, (ok.bindS hs).imp fun ds h1 rho1 F1 H1 e1 g1 ok1 J yd => ?_⟩, fun s fl h hf => (x.gd s fl h hf).bindS fun ds h1 le => gd_forL y.gd z.gd ds s fl h1 (Nat.le_trans hf le)⟩
  refine ⟨fun i m σ H => m = ds.length - i ∧ i ≤ ds.length ∧ ∃ rho F s h, Ext C.K rho1 F1 H1 rho F H ∧ SR C.K rho F H σ s ∧ GR C rho F h H ∧ OkS C rho F H D W (mForL g mb (ds.drop i) s fl h),
    ⟨ds.length, by simp, Nat.zero_le _, rho1, F1, s, h1, Ext.refl, hs.ext e1, g1, ok1⟩, ?_⟩
  rintro i m σ2 H2 ⟨rfl, hi, rho2, F2, s2, h2, e2, q2, g2, ok2⟩
  obtain ⟨go, stop, yld⟩ := yd rho2 F2 h2 H2 e2 g2
  by_cases hlt : i < ds.length
  · refine .inr ⟨go i hlt, fun σ' H' => ∃ rho F s h, Ext C.K rho1 F1 H1 rho F H' ∧ SR C.K rho F H' σ' s ∧ GR C rho F h H' ∧ OkS C rho F H' D W (mForL g mb (ds.drop (i + 1)) s fl h), fun σ' H' q => ⟨ds.length - (i + 1), by omega, rfl, hlt, q⟩, fun v H3 yy => ?_⟩
    obtain ⟨F3, e3, g3, r3⟩ := yld i ds[i] v H3 (by simp [hlt]) yy
    rw [List.drop_eq_getElem_cons hlt] at ok2
    unfold mForL at ok2
    cases o : g ds[i] s2 fl h2 with
    | none => rw [o] at ok2; exact ok2.elim
    | some p =>
      obtain ⟨s3, h3⟩ := p
      rw [o] at ok2
      simp only at ok2
      refine ⟨rho2, F3, s2, fl, h2, ds[i], q2.ext e3, g3, r3, s3, h3, o, fun σ4 rho4 F4 H4 e4 g4 q4 => ⟨rho4, F4, s3, fl, h3, q4, g4, ?_⟩⟩
      have ok4 := OkS.ext (e3.trans e4) ok2
      have e24 := e2.trans (e3.trans e4)
      cases o2 : mb s3 fl h3 with
      | nx s5 h5 => rw [o2] at ok4; exact fun σ5 rho5 F5 H5 e5 g5 q5 => ⟨rho5, F5, s5, h5, e24.trans e5, q5, g5, OkS.ext e5 ok4⟩
      | ct s5 h5 => rw [o2] at ok4; exact fun σ5 rho5 F5 H5 e5 g5 q5 => ⟨rho5, F5, s5, h5, e24.trans e5, q5, g5, OkS.ext e5 ok4⟩
      | bk s5 h5 => rw [o2] at ok4; exact fun σ5 rho5 F5 H5 e5 g5 q5 => ok4 σ5 rho5 F5 H5 e5 g5 q5
      | rt s5 h5 => rw [o2] at ok4; exact ok4
      | exc e s5 h5 => rw [o2] at ok4; exact ok4
      | err => rw [o2] at ok4; exact ok4
  · have e : i = ds.length := by omega
    subst e
    refine .inl ⟨stop, ?_⟩
    rw [List.drop_length] at ok2
    exact ok2 σ2 _ _ _ Ext.refl g2 q2
/-- the items of a value that does not change -/
def itD : D → Option (List D)
  | .lst xs => some xs
  | .scr ns => some (ns.map .int)
  | _ => none
def itT : D → Option (List D)
  | .tup xs => some xs
  | _ => none
def ofL (o : Option (List D)) (h : Hs) : R (List D) := match o with
  | some d => .ok d h
  | none => .err
theorem gd_ofL {fl : Nat} {h : Hs} (o : Option (List D)) : GdR fl h (ofL o h) := by
  cases o with
  | none => trivial
  | some d => exact Lw.refl
def mItL (m : ME D) : ME (List D) := fun s fl h => (m s fl h).bind fun d h1 => ofL (itD d) h1
def mItT (m : ME D) : ME (List D) := fun s fl h => (m s fl h).bind fun d h1 => ofL (itT d) h1
variable {e : Expr} {ma : ME D}
theorem yd_list {a : Addr} {vs : List V} {ds : List D} {rho : List Addr} {F : Addr → Prop} {H : Hp} (hK : X.K = C.K) (sq : ∀ rho' F' H', Ext C.K rho F H rho' F' H' → SqL X.K H' a vs) (r : RDs C.K rho F H vs ds) (hinj : True) : Yd C (Itl X.K a) ds rho F H := by
  intro rho' F' h' H' e' g'
  have q := sq rho' F' H' e'
  have r' := RDs.ext e' r
  refine ⟨fun i hi => ?_, ⟨vs, q, by rw [r.length]; exact Nat.le_refl _⟩, fun i d x H2 hd yy => ?_⟩
  · obtain ⟨v, h1, h2⟩ := r'.get (i := i) (d := ds[i]) (by simp [hi])
    exact ⟨vs, v, q, h1⟩
  · obtain ⟨e1, h1⟩ := yy
    subst e1
    obtain ⟨v, h2, h3⟩ := r'.get hd
    have h4 := h1 vs q
    rw [h2] at h4
    cases h4
    exact ⟨F', Ext.refl, g', h3⟩
theorem mi_list (hK : X.K = C.K) (x : PM X C W e ma) : PMI X C W tg e (mItL ma) := by
  refine ⟨pi_imp (pi_list x.pe) fun σ H R ⟨rho, F, s, fl, h, hs, hg, ok⟩ => ⟨rho, F, s, fl, h, hs, hg, ok.bind.imp fun d h1 rho1 F1 H1 e1 g1 ok1 v r1 => ?_⟩, gd_bind x.gd fun d => fun s fl h hf => gd_ofL _⟩
  cases o : itD d with
  | none => rw [o] at ok1; exact ok1.elim
  | some ds =>
    rw [o] at ok1
    have k := ok1 _ _ _ Ext.refl g1
    cases r1 with
    | lst f q r => 
      cases o
      exact ⟨_, rfl, ⟨_, SqL.of q⟩, k _ (yd_list hK (fun rho' F' H' e' => SqL.of (e'.ls _ _ f q)) r trivial)⟩
    | scr q =>
      cases o
      rename_i a ns
      have rr : ∀ l : List Int, RDs C.K rho1 F1 H1 (l.map V.int) (l.map D.int) := by
        intro l
        induction l with
        | nil => exact .nil
        | cons x xs ih => exact .cons (.int x) ih
      exact ⟨_, rfl, ⟨_, by rw [hK]; exact q.sq⟩, k _ (yd_list hK (fun rho' F' H' e' => by rw [hK]; exact (e'.sqf q).sq) (rr ns) trivial)⟩
    | _ => cases o
theorem mi_tup (hK : X.K = C.K) (x : PM X C W e ma) : PMI X C W tg e (mItT ma) := by
  refine ⟨pi_imp (pi_tup x.pe) fun σ H R ⟨rho, F, s, fl, h, hs, hg, ok⟩ => ⟨rho, F, s, fl, h, hs, hg, ok.bind.imp fun d h1 rho1 F1 H1 e1 g1 ok1 v r1 => ?_⟩, gd_bind x.gd fun d => fun s fl h hf => gd_ofL _⟩
  cases o : itT d with
  | none => rw [o] at ok1; exact ok1.elim
  | some ds =>
    rw [o] at ok1
    have k := ok1 _ _ _ Ext.refl g1
    cases r1 with
    | tup q r => 
      cases o
      refine ⟨_, rfl, ⟨_, SqT.of q⟩, k _ ?_⟩
      intro rho' F' h' H' e' g'
      have q : SqT X.K H' _ _ := SqT.of (e'.tp _ _ q)
      have r' := RDs.ext e' r
      refine ⟨fun i hi => ?_, ⟨_, q, by rw [r.length]; exact Nat.le_refl _⟩, fun i d x H2 hd yy => ?_⟩
      · obtain ⟨v, h1, h2⟩ := r'.get (i := i) (d := ds[i]) (by simp [hi])
        exact ⟨_, v, q, h1⟩
      · obtain ⟨e1, h1⟩ := yy
        subst e1
        obtain ⟨v, h2, h3⟩ := r'.get hd
        have h4 := h1 _ q
        rw [h2] at h4
        cases h4
        exact ⟨F', Ext.refl, g', h3⟩
    | _ => cases o
/-- range(n), range(a, b) -/
def inI (i : Int) : Bool := match i with
  | .ofNat n => Nat.ble n 4611686018427387903
  | .negSucc n => Nat.ble n 4611686018427387903
theorem inI_iff {i : Int} : inI i = true ↔ -4611686018427387904 ≤ i ∧ i < 4611686018427387904 := by
  cases i with
  | ofNat n => simp only [inI, Nat.ble_eq, Int.ofNat_eq_natCast]; omega
  | negSucc n => simp only [inI, Nat.ble_eq, Int.negSucc_eq]; omega
def rngL (lo : Int) (n : Nat) : List D := (List.range n).map fun i => .int (lo + (i : Nat))
def rng1 : List D → Option (List D)
  | [.int n] => if inI n then some (rngL 0 n.toNat) else none
  | _ => none
def rng2 : List D → Option (List D)
  | [.int a, .int b] => if inI a && inI b then some (rngL a (b - a).toNat) else none
  | _ => none
def mRng (f : List D → Option (List D)) (m : ME (List D)) : ME (List D) := fun s fl h => (m s fl h).bind fun ds h1 => ofL (f ds) h1
theorem yd_rng {lo : Int} {n : Nat} {rho : List Addr} {F : Addr → Prop} {H : Hp} : Yd C (Itr lo n) (rngL lo n) rho F H := by
  intro rho' F' h' H' e' g'
  have hl : (rngL lo n).length = n := by simp [rngL]
  refine ⟨fun i hi => by rw [hl] at hi; exact hi, by rw [hl]; exact Nat.le_refl _, fun i d x H2 hd yy => ?_⟩
  obtain ⟨e1, h1⟩ := yy
  subst e1 h1
  refine ⟨F', Ext.refl, g', ?_⟩
  unfold rngL at hd
  rw [List.getElem?_map] at hd
  have hi : i < n := by
    cases o : (List.range n)[i]? with
    | none => rw [o] at hd; cases hd
    | some k => have := (List.getElem?_eq_some_iff.mp o).1; simpa using this
  rw [List.getElem?_range hi] at hd
  cases hd
  exact .int _
theorem mi_range1 {a : Expr} {mr : ME (List D)} {p : Pos} (hg : Gl X "range") (hm : X.mg "range" = none) (x : PMA X C W [a] mr) (hs : starEach [a] X.env = [(false, eval a X.env)] := by rfl) : PMI X C W tg (.Call (.Name "range" p) [a] [] pos) (mRng rng1 mr) := by
  refine ⟨pi_imp (pi_range1 hg hm x.pa hs) fun σ H R ⟨rho, F, s, fl, h, hs, hg, ok⟩ => ⟨rho, F, s, fl, h, hs, hg, ok.bind.imp fun ds h1 rho1 F1 H1 e1 g1 ok1 vs r1 => ?_⟩, gd_bind x.gd fun d => fun s fl h hf => gd_ofL _⟩
  cases o : rng1 ds with
  | none => rw [o] at ok1; exact ok1.elim
  | some es =>
    rw [o] at ok1
    have k := ok1 _ _ _ Ext.refl g1
    unfold rng1 at o
    split at o
    · rename_i n
      split at o
      · rename_i hz
        cases o
        cases r1 with
        | cons r1 r2 =>
          cases r2
          cases r1
          rw [inI_iff] at hz
          exact ⟨n, rfl, by simpa using hz.1, by simpa using hz.2, k _ yd_rng⟩
      · cases o
    · cases o
theorem mi_range2 {a b : Expr} {mr : ME (List D)} {p : Pos} (hg : Gl X "range") (hm : X.mg "range" = none) (x : PMA X C W [a, b] mr) (hs : starEach [a, b] X.env = [(false, eval a X.env), (false, eval b X.env)] := by rfl) (hs2 : starEach [b] X.env = [(false, eval b X.env)] := by rfl) : PMI X C W tg (.Call (.Name "range" p) [a, b] [] pos) (mRng rng2 mr) := by
  refine ⟨pi_imp (pi_range2 hg hm x.pa hs hs2) fun σ H R ⟨rho, F, s, fl, h, hs, hg, ok⟩ => ⟨rho, F, s, fl, h, hs, hg, ok.bind.imp fun ds h1 rho1 F1 H1 e1 g1 ok1 vs r1 => ?_⟩, gd_bind x.gd fun d => fun s fl h hf => gd_ofL _⟩
  cases o : rng2 ds with
  | none => rw [o] at ok1; exact ok1.elim
  | some es =>
    rw [o] at ok1
    have k := ok1 _ _ _ Ext.refl g1
    unfold rng2 at o
    split at o
    · rename_i a b
      split at o
      · rename_i hz
        cases o
        cases r1 with
        | cons r1 r2 =>
          cases r2 with
          | cons r2 r3 =>
            cases r3
            cases r1
            cases r2
            simp only [Bool.and_eq_true, inI_iff] at hz
            exact ⟨a, b, rfl, ⟨by simpa using hz.1.1, by simpa using hz.1.2, by simpa using hz.2.1, by simpa using hz.2.2⟩, k _ yd_rng⟩
      · cases o
    · cases o
/-- while, so many turns at most -/
def mWhile (t : ME Bool) (body : MS) : Nat → MS
  | 0, _, _, _ => .err
  | n + 1, s, fl, h => (t s fl h).bindS s fun k h1 => if k then match body s fl h1 with
      | .nx s2 h2 => mWhile t body n s2 fl h2
      | .ct s2 h2 => mWhile t body n s2 fl h2
      | .bk s2 h2 => .nx s2 h2
      | .rt d h2 => .rt d h2
      | .exc e s2 h2 => .exc e s2 h2
      | .err => .err
    else .nx s h1
theorem gd_while {t : ME Bool} (y : Gd t) (z : GdM mb) : ∀ n, GdM (mWhile t mb n)
  | 0 => fun _ _ _ _ => trivial
  | n + 1 => fun s fl h hf => (y s fl h hf).bindS fun k h1 le1 => by
    cases k
    · exact Lw.refl
    · have hf1 := Nat.le_trans hf le1
      have q := z s fl h1 hf1
      simp only [if_true]
      cases o2 : mb s fl h1 with
      | nx s2 h2 => rw [o2] at q; exact (gd_while y z n s2 fl h2 (Nat.le_trans hf1 (Lw.le q))).weak q
      | ct s2 h2 => rw [o2] at q; exact (gd_while y z n s2 fl h2 (Nat.le_trans hf1 (Lw.le q))).weak q
      | bk s2 h2 => rw [o2] at q; exact q
      | rt s2 h2 => rw [o2] at q; exact q
      | exc e s2 h2 => rw [o2] at q; exact q
      | err => trivial
theorem ms_while (N : Nat) {c : Expr} {t : ME Bool} (hp : PassesOwn (model X.prog X.w) X.A X.env X.xe) (y : PMB X C W c t) (z : PML X C W body mb) : PMS X C W (.While c body [] pos) (mWhile t mb N) := by
  refine ⟨ps_imp (ps_while hp y.pt z.ps) fun D σ H ⟨rho, F, s, fl, h, hs, hg, ok⟩ => ?_, gd_while y.gd z.gd N⟩
  refine ⟨fun n σ H => ∃ rho F s h, SR C.K rho F H σ s ∧ GR C rho F h H ∧ OkS C rho F H D W (mWhile t mb n s fl h), ⟨N, rho, F, s, h, hs, hg, ok⟩, ?_⟩
  rintro n σ1 H1 ⟨rho1, F1, s1, h1, q1, g1, ok1⟩
  cases n with
  | zero => exact ok1.elim
  | succ n =>
    refine ⟨rho1, F1, s1, fl, h1, q1, g1, (OkS.bindS q1 ok1).imp fun k h2 rho2 F2 H2 e2 g2 ok2 => ?_⟩
    cases k
    · exact ok2 σ1 _ _ _ Ext.refl g2 (q1.ext e2)
    · refine ⟨fun σ H => ∃ rho F s h, SR C.K rho F H σ s ∧ GR C rho F h H ∧ OkS C rho F H D W (mWhile t mb n s fl h), fun σ' H' q => ⟨n, Nat.lt_succ_self _, q⟩, rho2, F2, s1, fl, h2, q1.ext e2, g2, ?_⟩
      simp only [if_true] at ok2
      cases o2 : mb s1 fl h2 with
      | nx s5 h5 => rw [o2] at ok2; exact fun σ5 rho5 F5 H5 e5 g5 q5 => ⟨rho5, F5, s5, h5, q5, g5, OkS.ext e5 ok2⟩
      | ct s5 h5 => rw [o2] at ok2; exact fun σ5 rho5 F5 H5 e5 g5 q5 => ⟨rho5, F5, s5, h5, q5, g5, OkS.ext e5 ok2⟩
      | bk s5 h5 => rw [o2] at ok2; exact fun σ5 rho5 F5 H5 e5 g5 q5 => ok2 σ5 rho5 F5 H5 e5 g5 q5
      | rt s5 h5 => rw [o2] at ok2; exact ok2
      | exc e s5 h5 => rw [o2] at ok2; exact ok2
      | err => rw [o2] at ok2; exact ok2
end
end NC

namespace NC
open PySem PySem.Spec L2
open PyProof.Rows hiding St
/-- a def of n parameters that means f -/
def spM (C : Cn) (n : Nat) (f : MF) : Sp := fun vs H Q E => vs.length = n ∧ ∃ rho F fl h ds, GR C rho F h H ∧ RDs C.K rho F H vs ds ∧ OkR C rho F H Q E (f ds fl h)
def GdF (f : MF) : Prop := ∀ (ds : List D) (fl : Nat) (h : Hs), fl ≤ h.length → GdR fl h (f ds fl h)
/-- the slots at the entry -/
def begS (n : Nat) (ds : List D) : SS := ds.map some ++ List.replicate (n - ds.length) none
def endF : RS → R D
  | .rt d h => .ok d h
  | .nx _ h => .ok .non h
  | .exc e _ h => .exc e h
  | _ => .err
/-- a body over n slots as a def's meaning -/
def mDef (n : Nat) (m : MS) : MF := fun ds fl h => endF (m (begS n ds) fl h)
theorem gd_def {n : Nat} {m : MS} (x : GdM m) : GdF (mDef n m) := fun ds fl h hf => by
  have q := x (begS n ds) fl h hf
  unfold mDef
  cases o : m (begS n ds) fl h <;> rw [o] at q <;> first | exact q | trivial
theorem sr_start {K : PySem.W.Frag} {rho : List Addr} {F : Addr → Prop} {H : Hp} {vs : List V} {ds : List D} (r : RDs K rho F H vs ds) (N : List Str) (hN : vs.length ≤ N.length) : SR K rho F H (L2.start N vs) (begS N.length ds) := by
  refine ⟨by simp [L2.start, begS, r.length], fun i d h => ?_⟩
  unfold begS at h
  unfold L2.start
  by_cases hi : i < ds.length
  · rw [List.getElem?_append_left (by simpa using hi), List.getElem?_map] at h
    cases o : ds[i]? with
    | none => rw [o] at h; cases h
    | some d' =>
      rw [o] at h
      cases h
      obtain ⟨v, h1, h2⟩ := r.get o
      refine ⟨v, ?_, h2⟩
      rw [List.getElem?_append_left (by simpa [r.length] using hi), List.getElem?_map, h1]
      rfl
  · rw [List.getElem?_append_right (by simpa using hi), List.getElem?_replicate] at h
    split at h <;> cases h
/-- what a def's body is walked with -/
structure Bd (X : Cx) (C : Cn) (W : WX) (k : Nat) : Prop where
  hK : X.K = C.K
  hc : X.calm = true
  hr : Room k X.A
  hp : PassesOwn (model X.prog X.w) X.A X.env X.xe
  tk : Takes X W
theorem Bd.hu {X : Cx} {C : Cn} {W : WX} {k : Nat} (B : Bd X C W k) : X.A.units + 64 < cLine := B.hr.units
theorem Bd.hu1 {X : Cx} {C : Cn} {W : WX} {k : Nat} (B : Bd X C W k) : X.A.units + 1 < cLine := hu_of B.hr
theorem bd_of {C : Cn} {k : Nat} {P : Program} {w : World} {mg : Str → Option Value} {base : Heap} {N : List Str} {qual : Str} {scope : Scope} {f : Addr} {cdv : Value} {A : Around} {outer : List Env} {s : Shared} {H : Hp} {E : XK}
    (hr : Room k (A.deeper (envOfC qual scope s.heap.objs.size f cdv))) : Bd (cxOf (L2.CX P w) P w C.K mg base N qual scope f cdv A outer s H E) C (fun c d _ H => E c d H) k :=
  ⟨rfl, rfl, hr, passes_of rfl, takes_of rfl rfl rfl rfl⟩
/-- THE RULE for a def -/
theorem fm_of {C : Cn} {P : Program} {w : World} {mg : Str → Option Value} {base : Heap} {x qual : Str} {params : Arguments} {body : List Stmt} {scope : Scope} {dvs : List V} {kws : List (Str × V)} {f : Addr} {fd : FuncData} {N ps : List Str} {k : Nat} {m : MS}
    (F : FunD C.K x qual params body scope dvs kws f fd) (S : FnScope N ps scope)
    (hb : ∀ (cdv : Value) (A : Around) (outer : List Env) (s : Shared) (H : Hp) (E : XK), Bd (cxOf (L2.CX P w) P w C.K mg base N qual scope f cdv A outer s H E) C (fun c d _ H => E c d H) k → PML (cxOf (L2.CX P w) P w C.K mg base N qual scope f cdv A outer s H E) C (fun c d _ H => E c d H) body m) :
    FnOk P w C.K mg base (L2.CX P w) (k + 1) f fd ps (spM C ps.length (mDef N.length m)) := by
  refine F.ok S (fun vs H Q E q => q.1) fun cdv A outer s H vs Q E hr q => ?_
  obtain ⟨hl, rho, F', fl, h, ds, g, r, ok⟩ := q
  have pl : ps.length ≤ N.length := by have := congrArg List.length S.pre; rw [List.length_take] at this; omega
  refine ⟨_, (hb cdv A outer s H E (bd_of hr)).ps, rho, F', begS N.length ds, fl, h, sr_start r N (by omega), g, ?_⟩
  unfold mDef at ok
  cases o : m (begS N.length ds) fl h with
  | nx s1 h1 => rw [o] at ok; exact fun σ' r2 F2 H2 e2 g2 q2 => ok r2 F2 H2 e2 g2 _ .non
  | rt d h1 => rw [o] at ok; exact fun v r2 F2 H2 e2 g2 q2 => ok r2 F2 H2 e2 g2 v q2
  | exc e s1 h1 => rw [o] at ok; exact fun c d σ' r2 F2 H2 e2 g2 q2 x2 => ok c d r2 F2 H2 e2 g2 x2
  | bk s1 h1 => rw [o] at ok; exact ok.elim
  | ct s1 h1 => rw [o] at ok; exact ok.elim
  | err => rw [o] at ok; exact ok.elim
def mapO {α β : Type} (f : α → Option β) : List α → Option (List β)
  | [] => some []
  | x :: xs => match f x with
    | none => none
    | some y => (mapO f xs).map (y :: ·)
/-- places from n on become lists that aren't written any more -/
def frz : Nat → Nat → Hs → D → Option D
  | 0, _, _, _ => none
  | k + 1, n, h, d => match d with
    | .ref i => if i < n then some (.ref i) else match h[i]? with
      | some (.lst xs) => (mapO (frz k n h) xs).map .lst
      | some (.dk kvs) => (mapO (frz k n h) (kvs.map (·.2))).map (.dic (kvs.map (·.1)))
      | some (.dt kvs) => (mapO (frz k n h) (kvs.map (·.2))).map (.dit (kvs.map (·.1)))
      | _ => none
    | .dic ks xs => (mapO (frz k n h) xs).map (.dic ks)
    | .dit ks xs => (mapO (frz k n h) xs).map (.dit ks)
    | .tup xs => (mapO (frz k n h) xs).map .tup
    | .lst xs => (mapO (frz k n h) xs).map .lst
    | d => some d
/-- a call behind which nothing is left but the answer, and what it wrote of things that stood before -/
def clean (f : MF) : MF := fun ds fl h => match f ds h.length h with
  | .ok d h' => match frz 64 h.length h' d with
    | some d' => .ok d' (h'.take h.length)
    | none => .err
  | .exc e h' => if e.f.low h.length then .exc e (h'.take h.length) else .err
  | .err => .err
mutual
theorem frz_pure : ∀ (k n : Nat) (h : Hs) (d : D), shal k d = true → frz (k + 1) n h d = some d
  | k, n, h, d, q => by
    cases d with
    | ref i => simp [shal] at q
    | dic _ _ => simp [shal] at q
    | dit _ _ => simp [shal] at q
    | tup xs =>
      cases k with
      | zero => simp [shal] at q
      | succ k => unfold frz; simp only; rw [frzL_pure k n h xs (by simpa [shal] using q)]; rfl
    | lst xs =>
      cases k with
      | zero => simp [shal] at q
      | succ k => unfold frz; simp only; rw [frzL_pure k n h xs (by simpa [shal] using q)]; rfl
    | _ => simp [frz]
theorem frzL_pure : ∀ (k n : Nat) (h : Hs) (xs : List D), shalL k xs = true → mapO (frz (k + 1) n h) xs = some xs
  | k, n, h, [], _ => rfl
  | k, n, h, x :: xs, q => by
    simp only [shalL, Bool.and_eq_true] at q
    unfold mapO
    rw [frz_pure k n h x q.1, frzL_pure k n h xs q.2]
    rfl
end
section
variable {C : Cn}
mutual
theorem RD.lowR {K : PySem.W.Frag} {rho r : List Addr} {F F' : Addr → Prop} {H : Hp} (hF : ∀ a, F a → F' a) : ∀ {v : V} {d : D}, RD K (rho ++ r) F H v d → d.low rho.length = true → RD K rho F' H v d
  | _, _, .non, _ => .non
  | _, _, .bl b, _ => .bl b
  | _, _, .int i, _ => .int i
  | _, _, .str l ok, _ => .str l ok
  | _, _, .tup q r, e => .tup q (RDs.lowR hF r (by simpa [D.low] using e))
  | _, _, .lst f q r, e => .lst (hF _ f) q (RDs.lowR hF r (by simpa [D.low] using e))
  | _, _, .ref q, e => by
    refine .ref ?_
    simp only [D.low, decide_eq_true_eq] at e
    rw [List.getElem?_append_left e] at q
    exact q
  | _, _, .scr q, _ => .scr (q.wide hF)
  | _, _, .dic f q k r, e => .dic (hF _ f) q k (RDs.lowR hF r (by simpa [D.low] using e))
  | _, _, .dit f q k r, e => .dit (hF _ f) q k (RDs.lowR hF r (by simpa [D.low] using e))
theorem RDs.lowR {K : PySem.W.Frag} {rho r : List Addr} {F F' : Addr → Prop} {H : Hp} (hF : ∀ a, F a → F' a) : ∀ {vs : List V} {ds : List D}, RDs K (rho ++ r) F H vs ds → lowL rho.length ds = true → RDs K rho F' H vs ds
  | _, _, .nil, _ => .nil
  | _, _, .cons a b, e => by
    simp only [lowL, Bool.and_eq_true] at e
    exact .cons (RD.lowR hF a e.1) (RDs.lowR hF b e.2)
end
mutual
theorem RD.low {K : PySem.W.Frag} {rho : List Addr} {F : Addr → Prop} {H : Hp} : ∀ {v : V} {d : D}, RD K rho F H v d → d.low rho.length = true
  | _, _, .non => rfl
  | _, _, .bl b => rfl
  | _, _, .int i => rfl
  | _, _, .str l ok => rfl
  | _, _, .tup q r => by simpa [D.low] using RDs.low r
  | _, _, .lst f q r => by simpa [D.low] using RDs.low r
  | _, _, .ref q => by simpa [D.low] using (List.getElem?_eq_some_iff.mp q).1
  | _, _, .scr q => rfl
  | _, _, .dic f q k r => by simpa [D.low] using RDs.low r
  | _, _, .dit f q k r => by simpa [D.low] using RDs.low r
theorem RDs.low {K : PySem.W.Frag} {rho : List Addr} {F : Addr → Prop} {H : Hp} : ∀ {vs : List V} {ds : List D}, RDs K rho F H vs ds → lowL rho.length ds = true
  | _, _, .nil => rfl
  | _, _, .cons a b => by simp [lowL, RD.low a, RDs.low b]
end
theorem paired_mem {α β : Type} {A : α → β → Prop} {l : List α} {m : List β} (p : Paired A l m) : ∀ y ∈ m, ∃ x, A x y := by
  induction p with
  | nil => intro y hy; simp at hy
  | cons a r ih =>
    intro y hy
    rcases List.mem_cons.mp hy with e | e
    · subst e; exact ⟨_, a⟩
    · exact ih y e
theorem ObR.low {rho : List Addr} {F : Addr → Prop} {H : Hp} {a : Addr} {o : Ob} (x : ObR C rho F H a o) : o.low rho.length = true := by
  cases o with
  | lst xs => obtain ⟨vs, q, r⟩ := x; exact r.low
  | dk kvs =>
    obtain ⟨ws, q, r⟩ := x
    refine lowL_iff.mpr fun d hd => ?_
    obtain ⟨p, hp, e⟩ := List.mem_map.mp hd
    obtain ⟨y, z⟩ := paired_mem r p hp
    exact e ▸ z.2.low
  | dt kvs =>
    obtain ⟨ws, q, r⟩ := x
    refine lowL_iff.mpr fun d hd => ?_
    obtain ⟨p, hp, e⟩ := List.mem_map.mp hd
    obtain ⟨y, z⟩ := paired_mem r p hp
    exact e ▸ z.2.low
  | ins c fs =>
    obtain ⟨dx, ws, q, l, l2, i, r⟩ := x
    refine lowL_iff.mpr fun d hd => ?_
    obtain ⟨o, ho, e⟩ := List.mem_filterMap.mp hd
    cases o with
    | none => cases e
    | some d' =>
      cases e
      obtain ⟨j, hj⟩ := List.mem_iff_getElem?.mp ho
      have hjl : j < (C.fn c).length := by rw [← l2]; exact (List.getElem?_eq_some_iff.mp hj).1
      have z := r j (C.fn c)[j] (some d) (by simp [hjl]) hj
      cases o2 : ws.lookup (C.fn c)[j] with
      | none => rw [o2] at z; exact z.elim
      | some v => rw [o2] at z; exact RD.low z
theorem GR.lowAll {rho : List Addr} {F : Addr → Prop} {h : Hs} {H : Hp} (g : GR C rho F h H) : Low h.length h := fun i o hi e => by
  obtain ⟨a, h1, h2⟩ := g.at e
  rw [← g.len]
  exact h2.low
theorem ObR.lowR {rho r : List Addr} {F F' : Addr → Prop} {H : Hp} (hF : ∀ a, F a → F' a) {a : Addr} {o : Ob} (x : ObR C (rho ++ r) F H a o) (e : o.low rho.length = true) : ObR C rho F' H a o := by
  have pk : ∀ {κ κ' : Type} {f : κ' → κ} {ws : List (κ × V)} {kvs : List (κ' × D)}, Paired (fun (p : κ × V) (q : κ' × D) => p.1 = f q.1 ∧ RD C.K (rho ++ r) F H p.2 q.2) ws kvs → lowL rho.length (kvs.map (·.2)) = true → Paired (fun (p : κ × V) (q : κ' × D) => p.1 = f q.1 ∧ RD C.K rho F' H p.2 q.2) ws kvs := by
    intro κ κ' f ws kvs p
    induction p with
    | nil => intro _; exact .nil
    | cons a b ih =>
      intro q
      simp only [List.map_cons, lowL, Bool.and_eq_true] at q
      exact .cons ⟨a.1, RD.lowR hF a.2 q.1⟩ (ih q.2)
  cases o with
  | lst xs => obtain ⟨vs, q, z⟩ := x; exact ⟨vs, q, z.lowR hF e⟩
  | dk kvs => obtain ⟨ws, q, z⟩ := x; exact ⟨ws, q, pk (f := kx) z e⟩
  | dt kvs => obtain ⟨ws, q, z⟩ := x; exact ⟨ws, q, pk (f := List.map kx) z e⟩
  | ins c fs =>
    obtain ⟨dx, ws, q, l, l2, i, z⟩ := x
    refine ⟨dx, ws, q, l, l2, i, fun j y d h1 h2 => ?_⟩
    have z1 := z j y d h1 h2
    cases d with
    | none =>
      cases o2 : ws.lookup y with
      | none => trivial
      | some v => rw [o2] at z1; exact z1.elim
    | some d =>
      cases o2 : ws.lookup y with
      | none => rw [o2] at z1; exact z1.elim
      | some v =>
        rw [o2] at z1
        refine RD.lowR hF z1 (lowL_iff.mp e d ?_)
        exact List.mem_filterMap.mpr ⟨some d, List.mem_of_getElem? h2, rfl⟩
abbrev addFs (F : Addr → Prop) (r : List Addr) : Addr → Prop := fun a => F a ∨ a ∈ r
/-- the upper part of the heap is let go -/
theorem GR.drop {rho r : List Addr} {F : Addr → Prop} {h : Hs} {H : Hp} (g : GR C (rho ++ r) F h H) (hl : Low rho.length h) : GR C rho (addFs F r) (h.take rho.length) H := by
  have ln : rho.length ≤ h.length := by have := g.len; simp at this; omega
  refine ⟨by rw [List.length_take]; omega, (List.nodup_append.mp g.nd).1, fun a ha f => ?_, fun a f => ?_, fun i o a e1 e2 => ?_⟩
  · rcases f with f | f
    · exact g.nf a (List.mem_append_left _ ha) f
    · exact (List.nodup_append.mp g.nd).2.2 a ha a f rfl
  · rcases f with f | f
    · exact g.ft a f
    · exact g.objAt (List.mem_append_right _ f)
  · have hi : i < rho.length := (List.getElem?_eq_some_iff.mp e2).1
    rw [List.getElem?_take_of_lt hi] at e1
    have e3 : (rho ++ r)[i]? = some a := by rw [List.getElem?_append_left hi]; exact e2
    exact (g.ob i o a e1 e3).lowR (fun _ q => .inl q) (hl i o hi e1)
theorem paired_split {K : PySem.W.Frag} {rho : List Addr} {F : Addr → Prop} {H : Hp} {κ κ' : Type} {f : κ' → κ} {ws : List (κ × V)} {kvs : List (κ' × D)} (p : Paired (fun (p : κ × V) (q : κ' × D) => p.1 = f q.1 ∧ RD K rho F H p.2 q.2) ws kvs) :
    ws.map (·.1) = (kvs.map (·.1)).map f ∧ RDs K rho F H (ws.map (·.2)) (kvs.map (·.2)) := by
  induction p with
  | nil => exact ⟨rfl, .nil⟩
  | cons a b ih => exact ⟨by simp [a.1, ih.1], .cons a.2 ih.2⟩
theorem frz_rd {rho r : List Addr} {F : Addr → Prop} {h : Hs} {H : Hp} (g : GR C (rho ++ r) F h H) : ∀ (k : Nat) {v : V} {d d' : D}, RD C.K (rho ++ r) F H v d → frz k rho.length h d = some d' → RD C.K rho (addFs F r) H v d'
  | 0, _, _, _, _, e => by simp [frz] at e
  | k + 1, v, d, d', x, e => by
    have all : ∀ {vs : List V} {ds es : List D}, RDs C.K (rho ++ r) F H vs ds → mapO (frz k rho.length h) ds = some es → RDs C.K rho (addFs F r) H vs es := by
      intro vs
      induction vs with
      | nil => intro ds es q e; cases q; cases e; exact .nil
      | cons v vs ih =>
        intro ds es q e
        cases q with
        | @cons _ _ d1 ds1 q1 q2 =>
          unfold mapO at e
          cases o : frz k rho.length h d1 with
          | none => simp [o] at e
          | some y =>
            simp only [o] at e
            cases o2 : mapO (frz k rho.length h) ds1 with
            | none => rw [o2] at e; cases e
            | some ys =>
              rw [o2] at e
              cases e
              exact .cons (frz_rd g k q1 o) (ih q2 o2)
    unfold frz at e
    cases x with
    | non => cases e; exact .non
    | bl b => cases e; exact .bl b
    | int i => cases e; exact .int i
    | str l ok => cases e; exact .str l ok
    | scr q => cases e; exact .scr (q.wide fun _ f => .inl f)
    | @tup a vs ds q z =>
      simp only at e
      cases o : mapO (frz k rho.length h) ds with
      | none => rw [o] at e; cases e
      | some es => rw [o] at e; cases e; exact .tup q (all z o)
    | @lst a vs ds f q z =>
      simp only at e
      cases o : mapO (frz k rho.length h) ds with
      | none => rw [o] at e; cases e
      | some es => rw [o] at e; cases e; exact .lst (.inl f) q (all z o)
    | @dic a ws ks ds f q kk z =>
      simp only at e
      cases o : mapO (frz k rho.length h) ds with
      | none => rw [o] at e; cases e
      | some es => rw [o] at e; cases e; exact .dic (.inl f) q kk (all z o)
    | @dit a ws ks ds f q kk z =>
      simp only at e
      cases o : mapO (frz k rho.length h) ds with
      | none => rw [o] at e; cases e
      | some es => rw [o] at e; cases e; exact .dit (.inl f) q kk (all z o)
    | @ref i a q =>
      simp only at e
      split at e
      · rename_i hi
        cases e
        refine .ref ?_
        rw [List.getElem?_append_left hi] at q
        exact q
      · rename_i hi
        split at e
        · rename_i xs o
          cases o2 : mapO (frz k rho.length h) xs with
          | none => rw [o2] at e; cases e
          | some es =>
            rw [o2] at e
            cases e
            obtain ⟨vs, q1, q2⟩ := g.ob i _ a o q
            refine .lst (.inr ?_) q1 (all q2 o2)
            rw [List.getElem?_append_right (by omega)] at q
            exact List.mem_of_getElem? q
        · rename_i kvs o
          cases o2 : mapO (frz k rho.length h) (kvs.map (·.2)) with
          | none => rw [o2] at e; cases e
          | some es =>
            rw [o2] at e
            cases e
            obtain ⟨ws, q1, q2⟩ := g.ob i _ a o q
            obtain ⟨k1, k2⟩ := paired_split (f := kx) q2
            refine .dic (.inr ?_) (.inl q1) k1 (all k2 o2)
            rw [List.getElem?_append_right (by omega)] at q
            exact List.mem_of_getElem? q
        · rename_i kvs o
          cases o2 : mapO (frz k rho.length h) (kvs.map (·.2)) with
          | none => rw [o2] at e; cases e
          | some es =>
            rw [o2] at e
            cases e
            obtain ⟨ws, q1, q2⟩ := g.ob i _ a o q
            obtain ⟨k1, k2⟩ := paired_split (f := List.map kx) q2
            refine .dit (.inr ?_) (.inl q1) k1 (all k2 o2)
            rw [List.getElem?_append_right (by omega)] at q
            exact List.mem_of_getElem? q
        · cases e
theorem sp_clean {n : Nat} {f : MF} (gf : GdF f) {vs : List V} {H : Hp} {Q : VK} {E : XK} (q : spM C n (clean f) vs H Q E) : spM C n f vs H Q E := by
  obtain ⟨hl, rho, F, fl, h, ds, g, r, ok⟩ := q
  refine ⟨hl, rho, F, h.length, h, ds, g, r, ?_⟩
  have gd := gf ds h.length h (Nat.le_refl _)
  unfold clean at ok
  cases o : f ds h.length h with
  | err => rw [o] at ok; exact ok.elim
  | ok d h' =>
    rw [o] at ok gd
    simp only at ok
    cases o2 : frz 64 h.length h' d with
    | none => rw [o2] at ok; exact ok.elim
    | some d' =>
      rw [o2] at ok
      intro rho' F' H' e' g' v x
      obtain ⟨p, pe⟩ := e'.pre
      subst pe
      have e2 : Ext C.K rho F H rho (addFs F' p) H' := ⟨⟨[], by simp⟩, fun a q => .inl (e'.fr a q), e'.tp, e'.ls, e'.fz, e'.dk, e'.dt⟩
      have g2 := g'.drop (by rw [g.len]; exact gd.low _ (Nat.le_refl _) g.lowAll)
      rw [g.len] at g2
      exact ok rho (addFs F' p) H' e2 g2 v (frz_rd g' 64 x (by rw [g.len]; exact o2))
  | exc e h' =>
    rw [o] at ok gd
    simp only at ok
    split at ok
    · rename_i lw
      intro cls dd rho' F' H' e' g' x
      obtain ⟨p, pe⟩ := e'.pre
      subst pe
      have e2 : Ext C.K rho F H rho (addFs F' p) H' := ⟨⟨[], by simp⟩, fun a q => .inl (e'.fr a q), e'.tp, e'.ls, e'.fz, e'.dk, e'.dt⟩
      have g2 := g'.drop (by rw [g.len]; exact gd.low _ (Nat.le_refl _) g.lowAll)
      rw [g.len] at g2
      refine ok cls dd rho (addFs F' p) H' e2 g2 ⟨x.1, ?_⟩
      have x2 := x.2
      cases o3 : C.ef e.c with
      | none => trivial
      | some nm =>
        rw [o3] at x2
        obtain ⟨d1, v1, y1, y2, y3⟩ := x2
        exact ⟨d1, v1, y1, y2, RD.lowR (fun _ q => .inl q) y3 (by rw [g.len]; exact lw)⟩
    · exact ok.elim
theorem Lw.take {fl : Nat} {h h' : Hs} (hf : fl ≤ h.length) (l : Lw h.length h h') : Lw fl h (h'.take h.length) := by
  refine ⟨fun n hn q i o hi e => ?_, by rw [List.length_take]; have := l.le; omega⟩
  rw [List.getElem?_take_of_lt (by omega)] at e
  exact l.low n (by omega) q i o hi e
theorem gd_clean {f : MF} (gf : GdF f) : GdF (clean f) := fun ds fl h hf => by
  have q := gf ds h.length h (Nat.le_refl _)
  unfold clean
  cases o : f ds h.length h with
  | err => trivial
  | ok d h' =>
    rw [o] at q
    simp only
    cases frz 64 h.length h' d with
    | none => trivial
    | some d' => exact Lw.take hf q
  | exc e h' =>
    rw [o] at q
    simp only
    split
    · exact Lw.take hf q
    · trivial
end
/-- a def that means f, at the level k -/
structure FM (C : Cn) (P : Program) (w : World) (mg : Str → Option Value) (base : Heap) (k : Nat) (f : Addr) (fd : FuncData) (ps : List Str) (m : MF) : Prop where
  ok : FnOk P w C.K mg base (L2.CX P w) k f fd ps (spM C ps.length m)
  gd : GdF m
end NC


namespace NC
open PySem PySem.Spec L2
open PyProof.Rows hiding St
theorem FM.clean {C : Cn} {P : Program} {w : World} {mg : Str → Option Value} {base : Heap} {k : Nat} {f : Addr} {fd : FuncData} {ps : List Str} {m : MF} (x : FM C P w mg base k f fd ps m) : FM C P w mg base k f fd ps (clean m) :=
  ⟨x.ok.imp fun vs H Q E q => sp_clean x.gd q, gd_clean x.gd⟩
theorem FM.mono {C : Cn} {P : Program} {w : World} {mg : Str → Option Value} {base : Heap} {j k : Nat} {f : Addr} {fd : FuncData} {ps : List Str} {m : MF} (x : FM C P w mg base j f fd ps m) (h : j ≤ k) : FM C P w mg base k f fd ps m := ⟨x.ok.mono h, x.gd⟩
def mCall (f : MF) (dds : List D) (ma : ME (List D)) : ME D := fun s fl h => (ma s fl h).bind fun ds h1 => f (ds ++ dds) fl h1
theorem gd_call {f : MF} {dds : List D} {ma : ME (List D)} (x : GdF f) (y : Gd ma) : Gd (mCall f dds ma) := gd_bind y fun ds => fun s fl h hf => x _ fl h hf
def mCallK (f : MF) (gD : List D → List D → List D) (ma mk : ME (List D)) : ME D := fun s fl h => (ma s fl h).bind fun ds h1 => (mk s fl h1).bind fun es h2 => f (gD ds es) fl h2
theorem gd_callK {f : MF} {gD : List D → List D → List D} {ma mk : ME (List D)} (x : GdF f) (y : Gd ma) (z : Gd mk) : Gd (mCallK f gD ma mk) := gd_bind y fun ds => gd_bind z fun es => fun s fl h hf => x _ fl h hf
/-- o.m(..): the object first -/
def mMeth (f : MF) (dds : List D) (mo : ME D) (ma : ME (List D)) : ME D := fun s fl h => (mo s fl h).bind fun o h1 => (ma s fl h1).bind fun ds h2 => f (o :: (ds ++ dds)) fl h2
theorem gd_meth {f : MF} {dds : List D} {mo : ME D} {ma : ME (List D)} (x : GdF f) (z : Gd mo) (y : Gd ma) : Gd (mMeth f dds mo ma) := gd_bind z fun o => gd_bind y fun ds => fun s fl h hf => x _ fl h hf
/-- the keywords' values -/
structure PMK (X : Cx) (C : Cn) (W : WX) (kws : List Keyword) (m : ME (List D)) : Prop where
  pk : PK X kws (TL C W m)
  gd : Gd m
  ln : ∀ (s : SS) (fl : Nat) (h : Hs) (ds : List D) (h' : Hs), m s fl h = .ok ds h' → ds.length = kws.length
theorem pk_imp {X : Cx} {kws : List Keyword} {t t' : TA} (h : PK X kws t) (i : ∀ σ H Q, t' σ H Q → t σ H Q) : PK X kws t' := ⟨fun p pins s σ H Q I q => h.run p pins s σ H Q I (i σ H Q q)⟩
section
variable {X : Cx} {C : Cn} {W : WX} {kk k n : Nat} {f g CA : Addr} {fd : FuncData} {ps ks : List Str} {m : MF} {x nm : Str} {p pos apos kpos : Pos} {e o : Expr} {es : List Expr} {kws : List Keyword} {ma mk : ME (List D)} {mo me : ME D} {dvs : List V} {dds : List D} {dsV : List Value}
theorem mk_nil : PMK X C W [] mNil := ⟨pk_imp pk_nil fun σ H Q ⟨rho, F, s, fl, h, hs, hg, ok⟩ => ok rho F H Ext.refl hg [] .nil, fun _ _ _ _ => Lw.refl, fun _ _ _ _ _ e => by cases e; rfl⟩
theorem mk_cons {nm : Option Str} (x : PM X C W e me) (y : PMK X C W kws mk) : PMK X C W (⟨nm, e, kpos⟩ :: kws) (mCons me mk) := by
  refine ⟨pk_imp (pk_cons x.pe y.pk) fun σ H Q ⟨rho, F, s, fl, h, hs, hg, ok⟩ => ⟨rho, F, s, fl, h, hs, hg, ok.bind.imp fun d h1 rho1 F1 H1 e1 g1 ok1 v r1 => ?_⟩, gd_bind x.gd fun d => gd_bind y.gd fun ds => fun s fl h hf => Lw.refl, fun s fl h ds h' q => ?_⟩
  · exact ⟨rho1, F1, s, fl, h1, hs.ext e1, g1, ok1.bind.imp fun ds h2 rho2 F2 H2 e2 g2 ok2 vs r2 => ok2 _ _ _ Ext.refl g2 _ (.cons (RD.ext e2 r1) r2)⟩
  · unfold mCons at q
    cases o : me s fl h with
    | ok d h1 =>
      rw [o] at q
      simp only [R.bind_ok] at q
      cases o2 : mk s fl h1 with
      | ok ds1 h2 =>
        rw [o2] at q
        cases q
        simp [y.ln _ _ _ _ _ o2]
      | exc _ _ => rw [o2] at q; cases q
      | err => rw [o2] at q; cases q
    | exc _ _ => rw [o] at q; cases q
    | err => rw [o] at q; cases q
theorem FM.fn (B : Bd X C W kk) (Fm : FM C X.prog X.w X.mg X.base k f fd ps m) : FnOk X.prog X.w X.K X.mg X.base (L2.CX X.prog X.w) k f fd ps (spM C ps.length m) := by have := Fm.ok; rw [← B.hK] at this; exact this
/-- f(e, ..) -/
theorem me_call (B : Bd X C W kk) (Fm : FM C X.prog X.w X.mg X.base k f fd ps m) (hk : k ≤ kk) (hm : X.mg x = some (.ref f)) (hkp : PySem.W.keepIn X.K (.ref f) = true) (hb : Binds X.K fd ps dsV) (hd : Vals dvs dsV) (hdd : ∀ rho F H, RDs C.K rho F H dvs dds)
    (y : PMA X C W (e :: es) ma) (hn : (e :: es).length + dds.length = ps.length := by rfl) (hg : Gl X x := by rfl) (hdb : (x == ("__debug__" : Str)) = false := by decide) (he : starEach (e :: es) X.env = (false, eval e X.env) :: starEach es X.env := by rfl) (hpl : (backTo pos (starEach es X.env)).any (·.1) = false := by rfl) :
    PM X C W (.Call (.Name x p) (e :: es) [] pos) (mCall m dds ma) := by
  refine ⟨pe_imp (pe_callSD (E := WE W) (Fm.fn B) (B.hr.mono hk) hg hm hkp hb hd (fun σ => passAt B.tk σ) y.pa hdb he hpl) fun σ H Q ⟨rho, F, s, fl, h, hs, hg, ok⟩ => ⟨rho, F, s, fl, h, hs, hg, ok.bind.impE fun ds h1 rho1 F1 H1 eq e1 g1 ok1 vs r1 => ?_⟩, gd_call Fm.gd y.gd⟩
  have r2 := r1.append (hdd rho1 F1 H1)
  exact ⟨by rw [r2.length, List.length_append, y.ln _ _ _ _ _ eq]; exact hn, rho1, F1, fl, h1, ds ++ dds, g1, r2, ok1⟩
/-- f() -/
theorem me_call0 (B : Bd X C W kk) (Fm : FM C X.prog X.w X.mg X.base k f fd ps m) (hk : k ≤ kk) (hm : X.mg x = some (.ref f)) (hkp : PySem.W.keepIn X.K (.ref f) = true) (hb : Binds X.K fd ps dsV) (hd : Vals dvs dsV) (hdd : ∀ rho F H, RDs C.K rho F H dvs dds)
    (hn : dds.length = ps.length := by rfl) (hg : Gl X x := by rfl) (hdb : (x == ("__debug__" : Str)) = false := by decide) : PM X C W (.Call (.Name x p) [] [] pos) (mCall m dds mNil) := by
  refine ⟨⟨fun pins s σ H Q I ⟨rho, F, s2, fl, h, hs, hgr, ok⟩ => ?_⟩, gd_call Fm.gd fun _ _ _ _ => Lw.refl⟩
  refine wpAny_Call_Name_kw (ld_glob I hg hm ?_ hdb)
  have r2 := hdd rho F H
  exact PySem.W.callWith_K0 I.kIn hkp (run_fnSD (E := WE W) (us := []) (vs := []) (Fm.fn B) (B.hr.mono hk) hb hd (passAt B.tk σ) I .nil ⟨by show dvs.length = _; rw [r2.length]; exact hn, rho, F, fl, h, dds, hgr, r2, ok⟩)
theorem run_fnSK {CX : CXT} {sp : Sp} {E : St → XK} {gg : List Value → List Value → List Value} {gV : List V → List V → List V} {pins : List (Addr × Obj)} {σ : St} {H : Hp} {s : Shared} {Q : VK} {us ws : List Value} {vs zs : List V} (F : FnOk X.prog X.w X.K X.mg X.base CX k f fd ps sp) (hr : Room k X.A) (hb : KBn X.K fd ps n ks gg gV) (hx : PassesAt CX X σ (E σ))
    (I : Inv X pins σ H s) (r : Vals vs us) (rz : Vals zs ws) (l1 : vs.length = n) (l2 : zs.length = ks.length) (h : sp (gV vs zs) H Q (E σ)) : wpAny (model X.prog X.w) X.A (call (.ref f) us (ks.zip ws)) (EP X pins σ Q) X.xe s := by
  have r2 := hb.rel r rz
  refine wpAny_call (codeAny_mono (F.run X.A X.stack s H ⟨us, ks.zip ws⟩ (gg us ws) (gV vs zs) Q (E σ) hr I.env0 (hb.to s us ws I.kIn (r.length.symm.trans l1) (rz.length.symm.trans l2)) r2 h) fun r s' hq => ?_)
  cases r with
  | error e => exact hx pins H s e s' I hq
  | ok fl =>
    cases fl with
    | ret u => exact I.after hq
    | next => exact False.elim hq
    | brk => exact False.elim hq
    | cont => exact False.elim hq
/-- f(e, .., k = v, ..) -/
theorem me_callK {gg : List Value → List Value → List Value} {gV : List V → List V → List V} {gD : List D → List D → List D} (B : Bd X C W kk) (Fm : FM C X.prog X.w X.mg X.base k f fd ps m) (hk : k ≤ kk) (hm : X.mg x = some (.ref f)) (hkp : PySem.W.keepIn X.K (.ref f) = true) (hb : KBn X.K fd ps (es.length + 1) ks gg gV)
    (hgD : ∀ rho F H vs ds zs fs, RDs C.K rho F H vs ds → RDs C.K rho F H zs fs → ds.length = es.length + 1 → fs.length = kws.length → RDs C.K rho F H (gV vs zs) (gD ds fs) ∧ (gD ds fs).length = ps.length)
    (y : PMA X C W (e :: es) ma) (z : PMK X C W kws mk) (hall : (backToKw pos (keywordEach kws X.env)).all (·.1.isSome) = true := by rfl) (hks : (backToKw pos (keywordEach kws X.env)).filterMap (·.1) = ks := by rfl) (hkl : kws.length = ks.length := by rfl) (hg : Gl X x := by rfl)
    (hdb : (x == ("__debug__" : Str)) = false := by decide) (he : starEach (e :: es) X.env = (false, eval e X.env) :: starEach es X.env := by rfl) (hpl : ((backTo pos (starEach (e :: es) X.env)).any (·.1) || (backToKw pos (keywordEach kws X.env)).any (·.1.isNone)) = false := by rfl) :
    PM X C W (.Call (.Name x p) (e :: es) kws pos) (mCallK m gD ma mk) := by
  refine ⟨⟨fun pins s σ H Q I ⟨rho, F, s2, fl, h, hs, hgr, ok⟩ => ?_⟩, gd_callK Fm.gd y.gd z.gd⟩
  refine wpAny_Call_Name_kw (ld_glob I hg hm ?_ hdb)
  refine PySem.W.callWith_KW (h₀ := X.base) I.ok.mod.kin hkp hall (thn (y.pa.run pos pins s σ H (fun vs H1 => ∃ rho1 F1 h1 ds, ds.length = es.length + 1 ∧ GR C rho1 F1 h1 H1 ∧ SR C.K rho1 F1 H1 σ s2 ∧ RDs C.K rho1 F1 H1 vs ds ∧ OkR C rho1 F1 H1 Q (WE W σ) ((mk s2 fl h1).bind fun es h2 => m (gD ds es) fl h2)) I ⟨rho, F, s2, fl, h, hs, hgr, ok.bind.impE fun ds h1 rho1 F1 H1 eq e1 g1 ok1 vs r1 => ⟨rho1, F1, h1, ds, by rw [y.ln _ _ _ _ _ eq]; rfl, g1, hs.ext e1, r1, ok1⟩⟩) fun us s1 ⟨vs, H1, I1, r, rho1, F1, h1, ds, dl, g1, hs1, r1, ok1⟩ => ?_) hpl he
  refine thn (z.pk.run pos pins s1 σ H1 (fun zs H2 => ∃ rho2 F2 h2 fs, fs.length = kws.length ∧ GR C rho2 F2 h2 H2 ∧ Ext C.K rho1 F1 H1 rho2 F2 H2 ∧ RDs C.K rho2 F2 H2 zs fs ∧ OkR C rho2 F2 H2 Q (WE W σ) (m (gD ds fs) fl h2)) I1 ⟨rho1, F1, s2, fl, h1, hs1, g1, ok1.bind.impE fun fs h2 rho2 F2 H2 eq e2 g2 ok2 zs r2 => ⟨rho2, F2, h2, fs, z.ln _ _ _ _ _ eq, g2, e2, r2, ok2⟩⟩) fun ws s3 ⟨zs, H2, I2, rz, rho2, F2, h2, fs, fl2, g2, e2, r2, ok2⟩ => ⟨I2.kIn, ?_⟩
  rw [hks]
  obtain ⟨q1, q2⟩ := hgD rho2 F2 H2 vs ds zs fs (RDs.ext e2 r1) r2 dl fl2
  exact run_fnSK (E := WE W) (Fm.fn B) (B.hr.mono hk) hb (passAt B.tk σ) I2 r rz (by rw [r1.length]; exact dl) (by rw [r2.length, fl2]; exact hkl) ⟨by rw [q1.length]; exact q2, rho2, F2, fl, h2, _, g2, q1, ok2⟩
/-- f(k = v, ..) -/
theorem me_callK0 {gg : List Value → List Value → List Value} {gV : List V → List V → List V} {gD : List D → List D → List D} (B : Bd X C W kk) (Fm : FM C X.prog X.w X.mg X.base k f fd ps m) (hk : k ≤ kk) (hm : X.mg x = some (.ref f)) (hkp : PySem.W.keepIn X.K (.ref f) = true) (hb : KBn X.K fd ps 0 ks gg gV)
    (hgD : ∀ rho F H vs ds zs fs, RDs C.K rho F H vs ds → RDs C.K rho F H zs fs → ds.length = 0 → fs.length = kws.length → RDs C.K rho F H (gV vs zs) (gD ds fs) ∧ (gD ds fs).length = ps.length)
    (z : PMK X C W kws mk) (hall : (backToKw pos (keywordEach kws X.env)).all (·.1.isSome) = true := by rfl) (hks : (backToKw pos (keywordEach kws X.env)).filterMap (·.1) = ks := by rfl) (hkl : kws.length = ks.length := by rfl) (hg : Gl X x := by rfl)
    (hdb : (x == ("__debug__" : Str)) = false := by decide) (hpl : ((backTo pos (starEach [] X.env)).any (·.1) || (backToKw pos (keywordEach kws X.env)).any (·.1.isNone)) = false := by rfl) :
    PM X C W (.Call (.Name x p) [] kws pos) (mCallK m gD mNil mk) := by
  refine ⟨⟨fun pins s σ H Q I ⟨rho, F, s2, fl, h, hs, hgr, ok⟩ => ?_⟩, gd_callK Fm.gd (fun _ _ _ _ => Lw.refl) z.gd⟩
  refine wpAny_Call_Name_kw (ld_glob I hg hm ?_ hdb)
  refine PySem.W.callWith_KW0 (h₀ := X.base) I.ok.mod.kin hkp hall ?_ hpl
  have ok : OkR C rho F H Q (WE W σ) ((mk s2 fl h).bind fun es h2 => m (gD [] es) fl h2) := ok
  refine thn (z.pk.run pos pins s σ H (fun zs H2 => ∃ rho2 F2 h2 fs, fs.length = kws.length ∧ GR C rho2 F2 h2 H2 ∧ Ext C.K rho F H rho2 F2 H2 ∧ RDs C.K rho2 F2 H2 zs fs ∧ OkR C rho2 F2 H2 Q (WE W σ) (m (gD [] fs) fl h2)) I ⟨rho, F, s2, fl, h, hs, hgr, ok.bind.impE fun fs h2 rho2 F2 H2 eq e2 g2 ok2 zs r2 => ⟨rho2, F2, h2, fs, z.ln _ _ _ _ _ eq, g2, e2, r2, ok2⟩⟩) fun ws s3 ⟨zs, H2, I2, rz, rho2, F2, h2, fs, fl2, g2, e2, r2, ok2⟩ => ⟨I2.kIn, ?_⟩
  rw [hks]
  obtain ⟨q1, q2⟩ := hgD rho2 F2 H2 [] [] zs fs .nil r2 rfl fl2
  exact run_fnSK (E := WE W) (Fm.fn B) (B.hr.mono hk) hb (passAt B.tk σ) I2 .nil rz rfl (by rw [r2.length, fl2]; exact hkl) ⟨by rw [q1.length]; exact q2, rho2, F2, fl, h2, _, g2, q1, ok2⟩
/-- what a class is: its number c, its address -/
structure ClM (X : Cx) (C : Cn) (c : Nat) : Prop where
  cl : Cls X.K (C.cl c)
/-- o.m(e, ..), o an instance of the class number c -/
def isIns (c : Nat) (h : Hs) (d : D) : Bool := match d with
  | .ref j => match h[j]? with
    | some (.ins c' _) => decide (c' = c)
    | _ => false
  | _ => false
def mRecv (c : Nat) (mo : ME D) : ME D := fun s fl h => (mo s fl h).bind fun d h1 => if isIns c h1 d then .ok d h1 else .err
theorem gd_recv {c : Nat} (x : Gd mo) : Gd (mRecv c mo) := gd_bind x fun d => fun s fl h hf => gd_if_ok Lw.refl
theorem isIns_at {c : Nat} {rho : List Addr} {F : Addr → Prop} {h : Hs} {H : Hp} (g : GR C rho F h H) {v : V} {d : D} (r : RD C.K rho F H v d) (q : isIns c h d = true) (hnm : nm ∉ C.fn c) : ∃ a dx ws, v = .ref a ∧ H a = some (.ins (C.cl c) dx ws) ∧ ws.lookup nm = none := by
  unfold isIns at q
  split at q
  · rename_i j
    split at q
    · rename_i c' fs o
      have hc := of_decide_eq_true q
      subst hc
      cases r with
      | ref z =>
        obtain ⟨dx, ws, q1, q2, q3, q4, q5⟩ := g.ob _ _ _ o z
        refine ⟨_, dx, ws, rfl, q1, ?_⟩
        cases o2 : ws.lookup nm with
        | none => rfl
        | some v => exact absurd (q4 nm v o2) hnm
    · cases q
  · cases q
theorem me_meth {pl : Sem Bool} (c : Nat) (B : Bd X C W kk) (Fm : FM C X.prog X.w X.mg X.base k f fd ps m) (hk : k ≤ kk) (cl : Cls X.K (C.cl c)) (hm : Meth X.K (C.cl c) nm f) (hnm : nm ∉ C.fn c) (hb : Binds X.K fd ps dsV) (hd : Vals dvs dsV) (hdd : ∀ rho F H, RDs C.K rho F H dvs dds)
    (x : PM X C W o mo) (y : PMA X C W (e :: es) ma) (hn : (e :: es).length + 1 + dds.length = ps.length := by rfl) (he : starEach (e :: es) X.env = (false, eval e X.env) :: starEach es X.env := by rfl) (hpl : (backTo pos (starEach es X.env)).any (·.1) = false := by rfl)
    (ht : eval (.Call (.Attribute o nm apos) (e :: es) [] pos) X.env = (do
      let ov ← eval o X.env
      standAt apos.atName
      let (f, first) ← holding [ov] (getMethod ov nm pl)
      callWith pos f first (backTo pos (starEach (e :: es) X.env)) (backToKw pos (keywordEach [] X.env))) := by rfl) :
    PM X C W (.Call (.Attribute o nm apos) (e :: es) [] pos) (mMeth m dds (mRecv c mo) ma) := by
  refine ⟨⟨fun pins s σ H Q I ⟨rho, F, s2, fl, h, hs, hgr, ok⟩ => ?_⟩, gd_meth Fm.gd (gd_recv x.gd) y.gd⟩
  refine PySem.W.methodCall_KW (pl := pl) (thn (x.pe.run pins s σ H (fun v H1 => ∃ rho1 F1 h1 d, GR C rho1 F1 h1 H1 ∧ SR C.K rho1 F1 H1 σ s2 ∧ RD C.K rho1 F1 H1 v d ∧ isIns c h1 d = true ∧ OkR C rho1 F1 H1 Q (WE W σ) ((ma s2 fl h1).bind fun ds h2 => m (d :: (ds ++ dds)) fl h2)) I ⟨rho, F, s2, fl, h, hs, hgr, ok.bind.bind.imp fun d h1 rho1 F1 H1 e1 g1 ok1 v r1 => ?_⟩) fun u s1 ⟨v, H1, I1, rv, rho1, F1, h1, d, g1, hs1, r1, q1, ok1⟩ => ?_) ht
  · split at ok1
    · rename_i z
      exact ⟨rho1, F1, h1, d, g1, hs.ext e1, r1, z, ok1 _ _ _ Ext.refl g1⟩
    · exact ok1.elim
  · obtain ⟨a, dx, ws, q2, q3, q4⟩ := isIns_at g1 r1 q1 hnm
    subst q2
    obtain rfl : u = Value.ref a := rv
    refine getmeth_ok I1 q3 cl hm q4 ?_
    refine PySem.W.callWith_K (first := [.ref a]) (h₀ := X.base) I.ok.mod.kin hm.kp (thn (y.pa.run pos pins s1 σ H1 (fun vs H2 => spM C ps.length m (.ref a :: (vs ++ dvs)) H2 Q (WE W σ)) I1 ⟨rho1, F1, s2, fl, h1, hs1, g1, ok1.bind.impE fun ds h2 rho2 F2 H2 eq e2 g2 ok2 vs r2 => ?_⟩) fun us s3 ⟨vs, H2, I2, r, q5⟩ => ⟨I2.kIn, ?_⟩) he hpl
    · have r3 : RDs C.K rho2 F2 H2 (.ref a :: (vs ++ dvs)) (d :: (ds ++ dds)) := .cons (RD.ext e2 r1) (r2.append (hdd rho2 F2 H2))
      exact ⟨by rw [r3.length, List.length_cons, List.length_append, y.ln _ _ _ _ _ eq, ← hn]; omega, rho2, F2, fl, h2, _, g2, r3, ok2⟩
    · exact run_fnSD (E := WE W) (us := .ref a :: us) (vs := .ref a :: vs) (Fm.fn B) (B.hr.mono hk) hb hd (passAt B.tk σ) I2 (.cons rfl r) q5
/-- o.m() -/
theorem me_meth0 {pl : Sem Bool} (c : Nat) (B : Bd X C W kk) (Fm : FM C X.prog X.w X.mg X.base k f fd ps m) (hk : k ≤ kk) (cl : Cls X.K (C.cl c)) (hm : Meth X.K (C.cl c) nm f) (hnm : nm ∉ C.fn c) (hb : Binds X.K fd ps dsV) (hd : Vals dvs dsV) (hdd : ∀ rho F H, RDs C.K rho F H dvs dds)
    (x : PM X C W o mo) (hn : 1 + dds.length = ps.length := by rfl)
    (ht : eval (.Call (.Attribute o nm apos) [] [] pos) X.env = (do
      let ov ← eval o X.env
      standAt apos.atName
      let (f, first) ← holding [ov] (getMethod ov nm pl)
      callWith pos f first (backTo pos (starEach [] X.env)) (backToKw pos (keywordEach [] X.env))) := by rfl) :
    PM X C W (.Call (.Attribute o nm apos) [] [] pos) (mMeth m dds (mRecv c mo) mNil) := by
  refine ⟨⟨fun pins s σ H Q I ⟨rho, F, s2, fl, h, hs, hgr, ok⟩ => ?_⟩, gd_meth Fm.gd (gd_recv x.gd) fun _ _ _ _ => Lw.refl⟩
  refine PySem.W.methodCall_KW (pl := pl) (thn (x.pe.run pins s σ H (fun v H1 => ∃ rho1 F1 h1 d, GR C rho1 F1 h1 H1 ∧ RD C.K rho1 F1 H1 v d ∧ isIns c h1 d = true ∧ OkR C rho1 F1 H1 Q (WE W σ) (m (d :: dds) fl h1)) I ⟨rho, F, s2, fl, h, hs, hgr, ok.bind.bind.imp fun d h1 rho1 F1 H1 e1 g1 ok1 v r1 => ?_⟩) fun u s1 ⟨v, H1, I1, rv, rho1, F1, h1, d, g1, r1, q1, ok1⟩ => ?_) ht
  · split at ok1
    · rename_i z
      exact ⟨rho1, F1, h1, d, g1, r1, z, ok1 _ _ _ Ext.refl g1⟩
    · exact ok1.elim
  · obtain ⟨a, dx, ws, q2, q3, q4⟩ := isIns_at g1 r1 q1 hnm
    subst q2
    obtain rfl : u = Value.ref a := rv
    refine getmeth_ok I1 q3 cl hm q4 ?_
    have r3 : RDs C.K rho1 F1 H1 (.ref a :: dvs) (d :: dds) := .cons r1 (hdd rho1 F1 H1)
    exact PySem.W.callWith_K0 (first := [.ref a]) I1.kIn hm.kp (run_fnSD (E := WE W) (us := [.ref a]) (vs := [.ref a]) (Fm.fn B) (B.hr.mono hk) hb hd (passAt B.tk σ) I1 (.cons rfl .nil) ⟨by show (V.ref a :: dvs).length = _; rw [r3.length, List.length_cons, ← hn]; omega, rho1, F1, fl, h1, _, g1, r3, ok1⟩)
end
end NC

namespace NC
open PySem PySem.Spec L2
open PyProof.Rows hiding St
section
variable {X : Cx} {C : Cn} {W : WX} {kk k n : Nat} {f g CA : Addr} {fd : FuncData} {ps ks : List Str} {m : MF} {x nm : Str} {p pos apos kpos : Pos} {e o : Expr} {es : List Expr} {kws : List Keyword} {ma mk : ME (List D)} {mo me : ME D} {dvs : List V} {dds : List D} {dsV : List Value}
theorem GR.made {c n : Nat} {rho : List Addr} {F : Addr → Prop} {h : Hs} {H : Hp} {a dx : Addr} (g : GR C rho F h H) (ha : H a = none) (hd : H dx = none) (ne : dx ≠ a) (hn : n = (C.fn c).length) :
    GR C (rho ++ [a]) F (h ++ [.ins c (List.replicate n none)]) (upd (upd H dx (.own a)) a (.ins (C.cl c) dx [])) ∧ Ext C.K rho F H (rho ++ [a]) F (upd (upd H dx (.own a)) a (.ins (C.cl c) dx [])) := by
  have g1 : GR C rho F h (upd H dx (.own a)) := g.new hd (fun _ q => q) fun _ q => .inl q
  have e1 : Ext C.K rho F H rho F (upd H dx (.own a)) := Ext.new hd g.ft fun _ q => q
  have ha1 : upd H dx (.own a) a = none := by rw [upd_ne (Ne.symm ne)]; exact ha
  obtain ⟨g2, e2⟩ := g1.push (o := .ins c (List.replicate n none)) (u := .ins (C.cl c) dx []) ha1 ⟨dx, [], upd_same, by simp, by simp [hn], fun x v z => by simp at z, fun i x d h1 h2 => (by
      rw [List.getElem?_replicate] at h2
      split at h2
      · cases h2
        trivial
      · cases h2)⟩
  exact ⟨g2, e1.trans e2⟩
theorem run_makeSK {CX : CXT} {sp : Sp} {E : St → XK} {gg : List Value → List Value → List Value} {gV : List V → List V → List V} {pins : List (Addr × Obj)} {σ : St} {H : Hp} {s : Shared} {Q : VK} {us ws : List Value} {vs zs : List V} (M : Mk X.K CA f) (F : FnOk X.prog X.w X.K X.mg X.base CX k f fd ps sp) (hr : Room (k + 1) X.A) (hb : KBn X.K fd ps (n + 1) ks gg gV) (hx : PassesAt CX X σ (E σ))
    (I : Inv X pins σ H s) (r : Vals vs us) (rz : Vals zs ws) (l1 : vs.length = n) (l2 : zs.length = ks.length)
    (h : ∀ x dx, H x = none → H dx = none → dx ≠ x → sp (gV (.ref x :: vs) zs) (upd (upd H dx (.own x)) x (.ins CA dx [])) (fun v H2 => v = .non ∧ Q (.ref x) H2) (E σ)) :
    wpAny (model X.prog X.w) X.A (call (.ref CA) us (ks.zip ws)) (EP X pins σ Q) X.xe s := by
  have hq := h (s.heap.objs.size + 1) s.heap.objs.size (I.hok.fresh (Nat.le_succ _)) (I.hok.fresh (Nat.le_refl _)) (Nat.ne_of_lt (Nat.lt_succ_self _))
  have I2 := Inv.made (C := CA) I
  have r1 : Vals (V.ref (s.heap.objs.size + 1) :: vs) (Value.ref (s.heap.objs.size + 1) :: us) := .cons rfl r
  have r2 := hb.rel r1 rz
  have n1 : (Value.ref (s.heap.objs.size + 1) :: us).length = n + 1 := by
    rw [List.length_cons, ← r.length, l1]
  refine wpAny_call (make_map (f := f) I.kIn M.makes M.init (beq_iff_eq.mp M.fn) (codeAny_mono (F.run _ X.stack _ _ ⟨Value.ref (s.heap.objs.size + 1) :: us, ks.zip ws⟩ (gg (Value.ref (s.heap.objs.size + 1) :: us) ws) _ _ (E σ) (hr.make CA us (ks.zip ws))
    (I2.env0.make CA us (ks.zip ws)) (hb.to _ (Value.ref (s.heap.objs.size + 1) :: us) ws I2.kIn n1 (rz.length.symm.trans l2)) r2 hq) fun r s' hq' => ?_))
  cases r with
  | error e => exact hx pins _ _ e s' I2 hq'
  | ok fl =>
    cases fl with
    | ret u =>
      obtain ⟨v, H', I3, rv, ev, q3⟩ := I2.after hq'
      subst ev
      exact ⟨rv, ⟨V.ref (s.heap.objs.size + 1), H', I3, rfl, q3⟩⟩
    | next => exact False.elim hq'
    | brk => exact False.elim hq'
    | cont => exact False.elim hq'
theorem run_makeSD {CX : CXT} {sp : Sp} {E : St → XK} {pins : List (Addr × Obj)} {σ : St} {H : Hp} {s : Shared} {Q : VK} {us : List Value} {vs : List V} (M : Mk X.K CA f) (F : FnOk X.prog X.w X.K X.mg X.base CX k f fd ps sp) (hr : Room (k + 1) X.A) (hb : Binds X.K fd ps dsV) (hd : Vals dvs dsV)
    (hx : PassesAt CX X σ (E σ)) (I : Inv X pins σ H s) (r : Vals vs us)
    (h : ∀ x dx, H x = none → H dx = none → dx ≠ x → sp (.ref x :: (vs ++ dvs)) (upd (upd H dx (.own x)) x (.ins CA dx [])) (fun v H2 => v = .non ∧ Q (.ref x) H2) (E σ)) :
    wpAny (model X.prog X.w) X.A (call (.ref CA) us) (EP X pins σ Q) X.xe s := by
  have hq := h (s.heap.objs.size + 1) s.heap.objs.size (I.hok.fresh (Nat.le_succ _)) (I.hok.fresh (Nat.le_refl _)) (Nat.ne_of_lt (Nat.lt_succ_self _))
  have I2 := Inv.made (C := CA) I
  have r2 : Vals (V.ref (s.heap.objs.size + 1) :: (vs ++ dvs)) (Value.ref (s.heap.objs.size + 1) :: (us ++ dsV)) := .cons rfl (r.append hd)
  have hl : (Value.ref (s.heap.objs.size + 1) :: us ++ dsV).length = ps.length := by
    have e := r2.length
    rw [F.len _ _ _ _ hq] at e
    exact e.symm
  refine wpAny_call (make_map (f := f) I.kIn M.makes M.init (beq_iff_eq.mp M.fn) (codeAny_mono (F.run _ X.stack _ _ ⟨Value.ref (s.heap.objs.size + 1) :: us, []⟩ (Value.ref (s.heap.objs.size + 1) :: (us ++ dsV)) _ _ (E σ) (hr.make CA us [])
    (I2.env0.make CA us []) (hb _ (Value.ref (s.heap.objs.size + 1) :: us) I2.kIn hl) r2 hq) fun r s' hq' => ?_))
  cases r with
  | error e => exact hx pins _ _ e s' I2 hq'
  | ok fl =>
    cases fl with
    | ret u =>
      obtain ⟨v, H', I3, rv, ev, q3⟩ := I2.after hq'
      subst ev
      exact ⟨rv, ⟨V.ref (s.heap.objs.size + 1), H', I3, rfl, q3⟩⟩
    | next => exact False.elim hq'
    | brk => exact False.elim hq'
    | cont => exact False.elim hq'
/-- what the maker wants of __init__'s result -/
def nonD : D → Bool
  | .non => true
  | _ => false
def mMk (c n : Nat) (f : MF) (g : D → List D) : Nat → Hs → R D := fun fl h => (f (g (.ref h.length)) fl (h ++ [.ins c (List.replicate n none)])).bind fun d h2 => if nonD d then .ok (.ref h.length) h2 else .err
theorem gd_mk {c n fl : Nat} {f : MF} {g : D → List D} {h : Hs} (x : GdF f) (hf : fl ≤ h.length) : GdR fl h (mMk c n f g fl h) := by
  refine GdR.weak (Lw.push hf _) ((x _ fl _ (by simp; omega)).bind fun d h1 _ => gd_if_ok Lw.refl)
theorem mk_ok {c : Nat} {fl : Nat} {f : MF} {gD : D → List D} {gV : V → List V} {rho : List Addr} {F : Addr → Prop} {h : Hs} {H : Hp} {Q : VK} {W : XK} (g : GR C rho F h H) (ok : OkR C rho F H Q W (mMk c n f gD fl h)) (hn : n = (C.fn c).length) {l : Nat}
    (hg : ∀ (a : Addr) (rho' : List Addr) (H' : Hp) (v : V) (d : D), Ext C.K rho F H rho' F H' → RD C.K rho' F H' v d → RDs C.K rho' F H' (gV v) (gD d) ∧ (gD d).length = l) :
    ∀ x dx, H x = none → H dx = none → dx ≠ x → spM C l f (gV (.ref x)) (upd (upd H dx (.own x)) x (.ins (C.cl c) dx [])) (fun v H2 => v = .non ∧ Q (.ref x) H2) W := by
  intro x dx hx hd ne
  obtain ⟨g2, e2⟩ := g.made (c := c) (n := n) hx hd ne hn
  have rx : RD C.K (rho ++ [x]) F (upd (upd H dx (.own x)) x (.ins (C.cl c) dx [])) (.ref x) (.ref h.length) := .ref (by rw [← g.len]; simp)
  obtain ⟨r1, l1⟩ := hg x _ _ _ _ e2 rx
  refine ⟨by rw [r1.length]; exact l1, rho ++ [x], F, fl, h ++ [.ins c (List.replicate n none)], _, g2, r1, ?_⟩
  refine (OkX.ext e2 ok).bind.imp fun d h1 rho1 F1 H1 e1 g1 ok1 v r => ?_
  split at ok1
  · rename_i z
    cases r with
    | non => exact ⟨rfl, ok1 _ _ _ Ext.refl g1 _ (RD.ext e1 rx)⟩
    | _ => cases z
  · exact ok1.elim
def mMake (c n : Nat) (f : MF) (dds : List D) (ma : ME (List D)) : ME D := fun s fl h => (ma s fl h).bind fun ds h1 => mMk c n f (fun o => o :: (ds ++ dds)) fl h1
def mMakeK (c n : Nat) (f : MF) (gD : List D → List D → List D) (ma mk : ME (List D)) : ME D := fun s fl h => (ma s fl h).bind fun ds h1 => (mk s fl h1).bind fun es h2 => mMk c n f (fun o => gD (o :: ds) es) fl h2
/-- C(e, ..) -/
theorem me_make (c : Nat) (B : Bd X C W kk) (Fm : FM C X.prog X.w X.mg X.base k f fd ps m) (hk : k + 1 ≤ kk) (M : Mk X.K (C.cl c) f) (hm : X.mg x = some (.ref (C.cl c))) (hb : Binds X.K fd ps dsV) (hd : Vals dvs dsV) (hdd : ∀ rho F H, RDs C.K rho F H dvs dds) (hcn : n = (C.fn c).length)
    (y : PMA X C W (e :: es) ma) (hn : (e :: es).length + 1 + dds.length = ps.length := by rfl) (hg : Gl X x := by rfl) (hdb : (x == ("__debug__" : Str)) = false := by decide) (he : starEach (e :: es) X.env = (false, eval e X.env) :: starEach es X.env := by rfl) (hpl : (backTo pos (starEach es X.env)).any (·.1) = false := by rfl) :
    PM X C W (.Call (.Name x p) (e :: es) [] pos) (mMake c n m dds ma) := by
  refine ⟨⟨fun pins s σ H Q I ⟨rho, F, s2, fl, h, hs, hgr, ok⟩ => ?_⟩, gd_bind y.gd fun ds => fun s fl h hf => gd_mk Fm.gd hf⟩
  refine wpAny_Call_Name_kw (ld_glob I hg hm ?_ hdb)
  refine PySem.W.callWith_K (h₀ := X.base) I.ok.mod.kin M.kp (thn (y.pa.run pos pins s σ H (fun vs H1 => ∀ x dx, H1 x = none → H1 dx = none → dx ≠ x → spM C ps.length m (.ref x :: (vs ++ dvs)) (upd (upd H1 dx (.own x)) x (.ins (C.cl c) dx [])) (fun v H2 => v = .non ∧ Q (.ref x) H2) (WE W σ)) I ⟨rho, F, s2, fl, h, hs, hgr, ok.bind.impE fun ds h1 rho1 F1 H1 eq e1 g1 ok1 vs r1 => ?_⟩) fun us s1 ⟨vs, H1, I1, r, q⟩ => ⟨I1.kIn, ?_⟩) he hpl
  · refine mk_ok (gV := fun v => v :: (vs ++ dvs)) g1 ok1 hcn fun a rho' H' v d e' r' => ⟨.cons r' ((RDs.ext e' r1).append (hdd _ _ _)), ?_⟩
    rw [List.length_cons, List.length_append, y.ln _ _ _ _ _ eq, ← hn]
    omega
  · exact run_makeSD (E := WE W) M (Fm.fn B) (B.hr.mono hk) hb hd (passAt B.tk σ) I1 r q
/-- C() -/
theorem me_make0 (c : Nat) (B : Bd X C W kk) (Fm : FM C X.prog X.w X.mg X.base k f fd ps m) (hk : k + 1 ≤ kk) (M : Mk X.K (C.cl c) f) (hm : X.mg x = some (.ref (C.cl c))) (hb : Binds X.K fd ps dsV) (hd : Vals dvs dsV) (hdd : ∀ rho F H, RDs C.K rho F H dvs dds) (hcn : n = (C.fn c).length)
    (hn : 1 + dds.length = ps.length := by rfl) (hg : Gl X x := by rfl) (hdb : (x == ("__debug__" : Str)) = false := by decide) :
    PM X C W (.Call (.Name x p) [] [] pos) (mMake c n m dds mNil) := by
  refine ⟨⟨fun pins s σ H Q I ⟨rho, F, s2, fl, h, hs, hgr, ok⟩ => ?_⟩, gd_bind (fun _ _ _ _ => Lw.refl) fun ds => fun s fl h hf => gd_mk Fm.gd hf⟩
  refine wpAny_Call_Name_kw (ld_glob I hg hm ?_ hdb)
  refine PySem.W.callWith_K0 I.kIn M.kp (run_makeSD (E := WE W) (us := []) (vs := []) M (Fm.fn B) (B.hr.mono hk) hb hd (passAt B.tk σ) I .nil ?_)
  refine mk_ok (gV := fun v => v :: ([] ++ dvs)) hgr ok hcn fun a rho' H' v d e' r' => ⟨.cons r' (hdd _ _ _), (by show ([] ++ dds).length + 1 = _; rw [List.nil_append, ← hn, Nat.add_comm])⟩
/-- C(e, .., k = v, ..) -/
theorem me_makeK {gg : List Value → List Value → List Value} {gV : List V → List V → List V} {gD : List D → List D → List D} (c : Nat) (B : Bd X C W kk) (Fm : FM C X.prog X.w X.mg X.base k f fd ps m) (hk : k + 1 ≤ kk) (M : Mk X.K (C.cl c) f) (hm : X.mg x = some (.ref (C.cl c))) (hb : KBn X.K fd ps (es.length + 1 + 1) ks gg gV) (hcn : n = (C.fn c).length)
    (hgD : ∀ rho F H vs ds zs fs, RDs C.K rho F H vs ds → RDs C.K rho F H zs fs → ds.length = es.length + 1 + 1 → fs.length = kws.length → RDs C.K rho F H (gV vs zs) (gD ds fs) ∧ (gD ds fs).length = ps.length)
    (y : PMA X C W (e :: es) ma) (z : PMK X C W kws mk) (hall : (backToKw pos (keywordEach kws X.env)).all (·.1.isSome) = true := by rfl) (hks : (backToKw pos (keywordEach kws X.env)).filterMap (·.1) = ks := by rfl) (hkl : kws.length = ks.length := by rfl) (hg : Gl X x := by rfl)
    (hdb : (x == ("__debug__" : Str)) = false := by decide) (he : starEach (e :: es) X.env = (false, eval e X.env) :: starEach es X.env := by rfl) (hpl : ((backTo pos (starEach (e :: es) X.env)).any (·.1) || (backToKw pos (keywordEach kws X.env)).any (·.1.isNone)) = false := by rfl) :
    PM X C W (.Call (.Name x p) (e :: es) kws pos) (mMakeK c n m gD ma mk) := by
  refine ⟨⟨fun pins s σ H Q I ⟨rho, F, s2, fl, h, hs, hgr, ok⟩ => ?_⟩, gd_bind y.gd fun ds => gd_bind z.gd fun fs => fun s fl h hf => gd_mk Fm.gd hf⟩
  refine wpAny_Call_Name_kw (ld_glob I hg hm ?_ hdb)
  refine PySem.W.callWith_KW (h₀ := X.base) I.ok.mod.kin M.kp hall (thn (y.pa.run pos pins s σ H (fun vs H1 => ∃ rho1 F1 h1 ds, ds.length = es.length + 1 ∧ GR C rho1 F1 h1 H1 ∧ SR C.K rho1 F1 H1 σ s2 ∧ RDs C.K rho1 F1 H1 vs ds ∧ OkR C rho1 F1 H1 Q (WE W σ) ((mk s2 fl h1).bind fun es h2 => mMk c n m (fun o => gD (o :: ds) es) fl h2)) I ⟨rho, F, s2, fl, h, hs, hgr, ok.bind.impE fun ds h1 rho1 F1 H1 eq e1 g1 ok1 vs r1 => ⟨rho1, F1, h1, ds, by rw [y.ln _ _ _ _ _ eq]; rfl, g1, hs.ext e1, r1, ok1⟩⟩) fun us s1 ⟨vs, H1, I1, r, rho1, F1, h1, ds, dl, g1, hs1, r1, ok1⟩ => ?_) hpl he
  refine thn (z.pk.run pos pins s1 σ H1 (fun zs H2 => zs.length = kws.length ∧ ∀ x dx, H2 x = none → H2 dx = none → dx ≠ x → spM C ps.length m (gV (.ref x :: vs) zs) (upd (upd H2 dx (.own x)) x (.ins (C.cl c) dx [])) (fun v H2 => v = .non ∧ Q (.ref x) H2) (WE W σ)) I1 ⟨rho1, F1, s2, fl, h1, hs1, g1, ok1.bind.impE fun fs h2 rho2 F2 H2 eq e2 g2 ok2 zs r2 => ?_⟩) fun ws s3 ⟨zs, H2, I2, rz, zl, q2⟩ => ⟨I2.kIn, ?_⟩
  · refine ⟨by rw [r2.length]; exact z.ln _ _ _ _ _ eq, mk_ok (gV := fun v => gV (v :: vs) zs) g2 ok2 hcn fun a rho' H' v d e' r' => ?_⟩
    exact hgD _ _ _ (v :: vs) (d :: ds) zs fs (.cons r' (RDs.ext (e2.trans e') r1)) (RDs.ext e' r2) (by rw [List.length_cons, dl]) (z.ln _ _ _ _ _ eq)
  · rw [hks]
    exact run_makeSK (E := WE W) M (Fm.fn B) (B.hr.mono hk) hb (passAt B.tk σ) I2 r rz (by rw [r1.length]; exact dl) (by rw [zl]; exact hkl) q2
/-- an object of ours is changed -/
theorem GR.write {rho : List Addr} {F : Addr → Prop} {h : Hs} {H : Hp} {i : Nat} {a : Addr} {o : Ob} {u : HO} (g : GR C rho F h H) (hi : rho[i]? = some a) (old : ∃ w, H a = some w ∧ (∀ xs, w ≠ .tup xs) ∧ (∀ ob v, w ≠ .frz ob v)) (new : ObR C rho F (upd H a u) a o) :
    GR C rho F (h.set i o) (upd H a u) ∧ Ext C.K rho F H rho F (upd H a u) := by
  obtain ⟨w, hw, nt, nf⟩ := old
  have am : a ∈ rho := List.mem_of_getElem? hi
  have ex : Ext C.K rho F H rho F (upd H a u) := by
    have q := Ext.at (K := C.K) (rho := rho) (r := []) (o := u) (H := H) (p := a) (F := F) (F' := F) (fun _ q => q) (fun b f z => g.nf a am (z ▸ f)) (fun b xs q z => by rw [z, hw] at q; exact nt xs (Option.some.inj q)) (fun b ob v q z => by rw [z, hw] at q; exact nf ob v (Option.some.inj q))
    rw [List.append_nil] at q
    exact q
  refine ⟨⟨by simp [g.len], g.nd, g.nf, fun b f => ?_, fun j o' b e1 e2 => ?_⟩, ex⟩
  · rw [upd_ne (fun z : b = a => g.nf a am (z ▸ f))]
    exact g.ft b f
  · by_cases hj : i = j
    · subst hj
      rw [hi] at e2
      cases e2
      rw [List.getElem?_set_self (by rw [← g.len]; exact (List.getElem?_eq_some_iff.mp hi).1)] at e1
      cases e1
      exact new
    · rw [List.getElem?_set_ne hj] at e1
      have ne : b ≠ a := fun z => by
        subst z
        have h1 := (List.getElem?_eq_some_iff.mp hi)
        have h2 := (List.getElem?_eq_some_iff.mp e2)
        obtain ⟨l1, q1⟩ := h1
        obtain ⟨l2, q2⟩ := h2
        exact hj ((List.getElem_inj g.nd).mp (q1.trans q2.symm))
      exact (g.ob j o' b e1 e2).ext ex (upd_ne ne)
theorem Low.set {n : Nat} {h : Hs} (l : Low n h) {i : Nat} {o : Ob} (q : i < n → o.low n = true) : Low n (h.set i o) := fun j o' hj e => by
  by_cases e1 : i = j
  · subst e1
    rw [List.getElem?_set] at e
    simp at e
    exact e.2 ▸ q hj
  · rw [List.getElem?_set_ne e1] at e
    exact l j o' hj e
mutual
theorem low_mono {d : D} {m n : Nat} (hmn : m ≤ n) : d.low m = true → d.low n = true := by
  cases d with
  | ref i => simp only [D.low, decide_eq_true_eq]; omega
  | tup xs => simpa [D.low] using lowL_mono hmn
  | lst xs => simpa [D.low] using lowL_mono hmn
  | dic _ xs => simpa [D.low] using lowL_mono hmn
  | dit _ xs => simpa [D.low] using lowL_mono hmn
  | _ => intro _; rfl
theorem lowL_mono {xs : List D} {m n : Nat} (hmn : m ≤ n) : lowL m xs = true → lowL n xs = true := by
  cases xs with
  | nil => intro _; rfl
  | cons x xs =>
    simp only [lowL, Bool.and_eq_true]
    exact fun ⟨a, b⟩ => ⟨low_mono hmn a, lowL_mono hmn b⟩
end
theorem lw_set {fl i : Nat} {h : Hs} {o : Ob} (q : i < fl → ∀ n, n ≤ fl → Low n h → i < n → o.low n = true) : Lw fl h (h.set i o) :=
  ⟨fun n hn l => l.set fun hi => q (by omega) n hn l hi, by simp⟩
theorem wr_low {fl i n : Nat} {d : D} (w : wrOk fl i d = true) (hi : i < fl) : d.low n = true := by
  unfold wrOk at w
  simp only [Bool.or_eq_true, decide_eq_true_eq] at w
  rcases w with w | w
  · omega
  · exact low_mono (Nat.zero_le _) w
/-- o.f = e -/
def gFld (c i : Nat) (mo : ME D) : MG := fun d s fl h => match mo s fl h with
  | .ok o h1 => (setF c i d fl h1 o).map fun h2 => (s, h2)
  | _ => none
def mFldS (c i : Nat) (mo mv : ME D) : MS := fun s fl h => (mv s fl h).bindS s fun d h1 => (mo s fl h1).bindS s fun o h2 => match setF c i d fl h2 o with
  | some h3 => .nx s h3
  | none => .err
theorem cntS_set {fs : List (Option D)} {i : Nat} {d : D} (hi : i < fs.length) : cntS (fs.set i (some d)) = if (slot fs i).isSome then cntS fs else cntS fs + 1 := by
  induction fs generalizing i with
  | nil => simp at hi
  | cons x xs ih =>
    cases i with
    | zero =>
      cases x with
      | none => simp [cntS, slot]
      | some y => simp [cntS, slot]
    | succ i =>
      have h := ih (i := i) (by simpa using hi)
      cases x with
      | none => simpa [cntS, slot] using h
      | some y =>
        simp only [List.set_cons_succ, cntS, List.filter_cons_of_pos, Option.isSome_some, List.length_cons, slot] at h ⊢
        rw [h]
        split <;> rfl
theorem putF_len (fnm : Str) (v : V) : ∀ ws : List (Str × V), (putF fnm v ws).length = if (ws.lookup fnm).isSome then ws.length else ws.length + 1
  | [] => rfl
  | (g, y) :: r => by
    by_cases e : g = fnm
    · subst e
      simp [putF, List.lookup]
    · have e' : (fnm == g) = false := by simpa using fun z => e z.symm
      simp only [putF, if_neg e, List.length_cons, putF_len fnm v r, List.lookup, e']
      split <;> rfl
theorem setF_at {c i : Nat} {d dd : D} {fl : Nat} {rho : List Addr} {F : Addr → Prop} {h h2 : Hs} {H : Hp} {vo v : V} {fnm : Str} (g : GR C rho F h H) (ro : RD C.K rho F H vo d) (rv : RD C.K rho F H v dd) (q : setF c i dd fl h d = some h2) (hf : (C.fn c)[i]? = some fnm) (nd : (C.fn c).Nodup) :
    ∃ a dx ws, vo = .ref a ∧ H a = some (.ins (C.cl c) dx ws) ∧ ws.length ≤ (C.fn c).length ∧ GR C rho F h2 (upd H a (.ins (C.cl c) dx (putF fnm v ws))) ∧ Ext C.K rho F H rho F (upd H a (.ins (C.cl c) dx (putF fnm v ws))) := by
  unfold setF at q
  split at q
  · rename_i j
    split at q
    · rename_i c' fs o
      split at q
      · rename_i z
        obtain ⟨hc, hi, hw⟩ := z
        subst hc
        cases q
        cases ro with
        | @ref _ a z =>
          obtain ⟨dx, ws, q1, q2, q3, q4, q5⟩ := g.ob _ _ _ o z
          have cl : cntS fs ≤ fs.length := List.length_filter_le _ _
          refine ⟨a, dx, ws, rfl, q1, by omega, ?_⟩
          have ex : ∀ u, Ext C.K rho F H rho F (upd H a u) := fun u => by
            have q := Ext.at (K := C.K) (rho := rho) (r := []) (o := u) (H := H) (p := a) (F := F) (F' := F) (fun _ q => q) (fun b f z' => g.nf a (List.mem_of_getElem? z) (z' ▸ f)) (fun b xs q z => by rw [z, q1] at q; cases q) (fun b ob v q z => by rw [z, q1] at q; cases q)
            rw [List.append_nil] at q
            exact q
          refine g.write z ⟨_, q1, fun xs => by simp, fun ob v => by simp⟩ ⟨dx, _, upd_same, ?_, by simpa using q3, fun x v hx => ?_, fun j2 x d2 h1 h2 => ?_⟩
          · rw [cntS_set hi, putF_len]
            cases o2 : slot fs i with
            | some y =>
              have z1 := q5 i fnm (some y) hf (slot_some o2)
              cases o3 : ws.lookup fnm with
              | none => rw [o3] at z1; exact z1.elim
              | some w => simp; exact q2
            | none =>
              cases o3 : ws.lookup fnm with
              | some w =>
                exfalso
                have z0 : fs[i]? = some none := by
                  have : ∀ (l : List (Option D)) (i : Nat), i < l.length → slot l i = none → l[i]? = some none := by
                    intro l
                    induction l with
                    | nil => intro i h; simp at h
                    | cons y ys ih =>
                      intro i h h'
                      cases i with
                      | zero => simp [slot] at h'; simp [h']
                      | succ i => simpa using ih i (by simpa using h) (by simpa [slot] using h')
                  exact this fs i hi o2
                have z1 := q5 i fnm none hf z0
                rw [o3] at z1
                exact z1.elim
              | none => simp; exact q2
          · rw [lookup_putF] at hx
            split at hx
            · rename_i e; subst e; exact List.mem_of_getElem? hf
            · exact q4 x v hx
          · rw [lookup_putF]
            by_cases e : i = j2
            · subst e
              rw [hf] at h1
              cases h1
              rw [if_pos rfl]
              rw [List.getElem?_set_self hi] at h2
              cases h2
              exact RD.ext (ex _) rv
            · rw [List.getElem?_set_ne e] at h2
              have ne : x ≠ fnm := fun z => by
                subst z
                obtain ⟨l1, p1⟩ := List.getElem?_eq_some_iff.mp hf
                obtain ⟨l2, p2⟩ := List.getElem?_eq_some_iff.mp h1
                exact e ((List.getElem_inj nd).mp (p1.trans p2.symm))
              rw [if_neg ne]
              exact RO.ext (ex _) (q5 j2 x d2 h1 h2)
      · cases q
    · cases q
  · cases q
theorem gd_setF {c i : Nat} {d dd : D} {fl : Nat} {h h2 : Hs} (q : setF c i dd fl h d = some h2) : Lw fl h h2 := by
  unfold setF at q
  split at q
  · split at q
    · rename_i c' fs o
      split at q
      · rename_i z
        cases q
        refine lw_set fun hi n hn l hj => ?_
        have ol := l _ _ hj o
        refine lowL_iff.mpr fun y hy => ?_
        obtain ⟨oy, hoy, ey⟩ := List.mem_filterMap.mp hy
        cases oy with
        | none => cases ey
        | some y' =>
          cases ey
          rcases List.mem_or_eq_of_mem_set hoy with m | m
          · exact lowL_iff.mp ol y (List.mem_filterMap.mpr ⟨some y, m, rfl⟩)
          · cases m
            exact wr_low z.2.2 hi
      · cases q
    · cases q
  · cases q
variable {mv : ME D} {fnm : Str} {value : Expr} {pos' : Pos}
theorem ms_fld (hK : X.K = C.K) (c i : Nat) (x : PM X C W o mo) (y : PM X C W value mv) (hf : (C.fn c)[i]? = some fnm) (nd : (C.fn c).Nodup) (hsz : (C.fn c).length < 1000) (cl : Cls X.K (C.cl c)) (na : NoAttr X.K (C.cl c) fnm) (hs : swapsWith value (some (.Attribute o fnm pos')) pos.line X.env = pure false := by rfl) :
    PMS X C W (.Assign [.Attribute o fnm pos'] value pos) (mFldS c i mo mv) := by
  refine ⟨ps_imp (ps_fld x.pe y.pe hs) fun DD σ H ⟨rho, F, s, fl, h, hs, hg, ok⟩ => ⟨rho, F, s, fl, h, hs, hg, (ok.bindS hs).imp fun d h1 rho1 F1 H1 e1 g1 ok1 v r1 => ?_⟩, fun s fl h hf => (y.gd s fl h hf).bindS fun d h1 le => (x.gd s fl h1 (Nat.le_trans hf le)).bindS fun d2 h2 le2 => ?_⟩
  · refine ⟨rho1, F1, s, fl, h1, hs.ext e1, g1, (ok1.bindS (hs.ext e1)).imp fun d2 h2 rho2 F2 H2 e2 g2 ok2 vo r2 => ?_⟩
    cases q : setF c i d fl h2 d2 with
    | none => rw [q] at ok2; exact ok2.elim
    | some h3 =>
      rw [q] at ok2
      obtain ⟨a, dx, ws, q1, q2, q3, q4, q5⟩ := setF_at g2 r2 (RD.ext e2 r1) q hf nd
      exact ⟨a, _, dx, ws, q1, q2, cl, na, by omega, ok2 σ _ _ _ q5 q4 (hs.ext (e1.trans (e2.trans q5)))⟩
  · cases q : setF c i d fl h2 d2 with
    | none => trivial
    | some h3 => exact gd_setF q
end
end NC

namespace NC
open PySem PySem.Spec L2
open PyProof.Rows hiding St
def kxOf : D → Option Kx
  | .int i => some (.i i)
  | .str s => some (.s s)
  | _ => none
def kxsOf : D → Option (List Kx)
  | .tup ds => mapO kxOf ds
  | _ => none
def lookK {κ α : Type} [DecidableEq κ] : List (κ × α) → κ → Option α
  | [], _ => none
  | p :: r, k => if p.1 = k then some p.2 else lookK r k
def lookZ {κ α : Type} [DecidableEq κ] : List κ → List α → κ → Option α
  | a :: ks, v :: vs, k => if a = k then some v else lookZ ks vs k
  | _, _, _ => none
def hasK {κ α : Type} [DecidableEq κ] (kvs : List (κ × α)) (k : κ) : Bool := kvs.any fun p => decide (p.1 = k)
def putL {κ α : Type} [DecidableEq κ] (kvs : List (κ × α)) (k : κ) (v : α) : List (κ × α) := if hasK kvs k then kvs.map (fun p => if p.1 = k then (p.1, v) else p) else kvs ++ [(k, v)]
theorem kx_inj {a b : Kx} (e : kx a = kx b) : a = b := by
  cases a with
  | i n => cases b with
    | i m => cases e; rfl
    | s l => cases e
  | s l => cases b with
    | i m => cases e
    | s m =>
      have z : (⟨l.toArray⟩ : Str) = ⟨m.toArray⟩ := Sum.inr.inj e
      have z2 := congrArg (fun q : Str => q.cps.toList) z
      simp at z2
      rw [z2]
theorem kxs_inj : ∀ {a b : List Kx}, a.map kx = b.map kx → a = b
  | [], [], _ => rfl
  | [], _ :: _, e => by simp at e
  | _ :: _, [], e => by simp at e
  | x :: xs, y :: ys, e => by
    simp only [List.map_cons, List.cons.injEq] at e
    rw [kx_inj e.1, kxs_inj e.2]
section
variable {K : PySem.W.Frag} {rho : List Addr} {F : Addr → Prop} {H : Hp}
theorem kx_rd {v : V} {d : D} {k : Kx} (r : RD K rho F H v d) (e : kxOf d = some k) : v = kV (kx k) := by
  cases r <;> cases e <;> rfl
theorem kxs_rds : ∀ {vs : List V} {ds : List D} {ks : List Kx}, RDs K rho F H vs ds → mapO kxOf ds = some ks → vs = (ks.map kx).map kV
  | _, _, _, .nil, e => by cases e; rfl
  | _, _, ks, .cons (d := d) (ds := ds) a b, e => by
    unfold mapO at e
    cases o : kxOf d with
    | none => simp [o] at e
    | some k =>
      simp only [o] at e
      cases o2 : mapO kxOf ds with
      | none => rw [o2] at e; cases e
      | some kk =>
        rw [o2] at e
        cases e
        simp only [List.map_cons]
        rw [kx_rd a o, kxs_rds b o2]
theorem kxs_rd {v : V} {d : D} {ks : List Kx} (r : RD K rho F H v d) (e : kxsOf d = some ks) : ∃ b, v = .ref b ∧ H b = some (.tup ((ks.map kx).map kV)) := by
  cases r with
  | tup q r => exact ⟨_, rfl, by rw [← kxs_rds r e]; exact q⟩
  | _ => cases e
def ROo (K : PySem.W.Frag) (rho : List Addr) (F : Addr → Prop) (H : Hp) (o : Option V) (d : Option D) : Prop := RO K rho F H o d
section
variable {κ κ' : Type} [DecidableEq κ] [DecidableEq κ'] {f : κ' → κ}
abbrev PR (K : PySem.W.Frag) (rho : List Addr) (F : Addr → Prop) (H : Hp) (f : κ' → κ) : List (κ × V) → List (κ' × D) → Prop := Paired fun (p : κ × V) (q : κ' × D) => p.1 = f q.1 ∧ RD K rho F H p.2 q.2
theorem look_rd (hf : ∀ a b, f a = f b → a = b) (k : κ') : ∀ {ws : List (κ × V)} {kvs : List (κ' × D)}, PR K rho F H f ws kvs → RO K rho F H (valV ws (f k)) (lookK kvs k)
  | _, _, .nil => trivial
  | _, _, .cons (a := p) (b := q) a b => by
    unfold lookK
    by_cases e : q.1 = k
    · rw [if_pos e, valV_pos (by rw [a.1, e])]
      exact a.2
    · rw [if_neg e, valV_neg (fun z => e (hf _ _ (by rw [← a.1]; exact z)))]
      exact look_rd hf k b
theorem has_rd (hf : ∀ a b, f a = f b → a = b) (k : κ') : ∀ {ws : List (κ × V)} {kvs : List (κ' × D)}, PR K rho F H f ws kvs → (ws.any fun kv => decide (kv.1 = f k)) = hasK kvs k
  | _, _, .nil => rfl
  | _, _, .cons (a := p) (b := q) a b => by
    unfold hasK
    simp only [List.any_cons]
    rw [has_rd hf k b]
    have : decide (p.1 = f k) = decide (q.1 = k) := by
      rw [decide_eq_decide, a.1]
      exact ⟨hf _ _, fun z => by rw [z]⟩
    rw [this]
    rfl
theorem map_rd (hf : ∀ a b, f a = f b → a = b) (k : κ') {v : V} {d : D} (r : RD K rho F H v d) : ∀ {ws : List (κ × V)} {kvs : List (κ' × D)}, PR K rho F H f ws kvs → PR K rho F H f (ws.map fun kv => if kv.1 = f k then (kv.1, v) else kv) (kvs.map fun p => if p.1 = k then (p.1, d) else p)
  | _, _, .nil => .nil
  | _, _, .cons (a := p) (b := q) a b => by
    refine .cons ?_ (map_rd hf k r b)
    dsimp only
    by_cases e : q.1 = k
    · rw [if_pos e, if_pos (by rw [a.1, e])]
      exact ⟨a.1, r⟩
    · rw [if_neg e, if_neg (fun z => e (hf _ _ (by rw [← a.1]; exact z)))]
      exact a
theorem snoc_rd {k : κ'} {v : V} {d : D} (r : RD K rho F H v d) : ∀ {ws : List (κ × V)} {kvs : List (κ' × D)}, PR K rho F H f ws kvs → PR K rho F H f (ws ++ [(f k, v)]) (kvs ++ [(k, d)])
  | _, _, .nil => .cons ⟨rfl, r⟩ .nil
  | _, _, .cons a b => .cons a (snoc_rd r b)
theorem put_rd (hf : ∀ a b, f a = f b → a = b) (k : κ') {v : V} {d : D} (r : RD K rho F H v d) {ws : List (κ × V)} {kvs : List (κ' × D)} (p : PR K rho F H f ws kvs) : PR K rho F H f (putK ws (f k) v) (putL kvs k d) := by
  unfold putK putL
  rw [has_rd hf k p]
  split
  · exact map_rd hf k r p
  · exact snoc_rd r p
theorem lookZ_rd (hf : ∀ a b, f a = f b → a = b) (k : κ') : ∀ {ws : List (κ × V)} {ks : List κ'} {ds : List D}, ws.map (·.1) = ks.map f → RDs K rho F H (ws.map (·.2)) ds → RO K rho F H (valV ws (f k)) (lookZ ks ds k)
  | [], ks, ds, e, r => by
    cases r
    cases ks with
    | nil => trivial
    | cons _ _ => simp at e
  | p :: ws, [], ds, e, r => by simp at e
  | p :: ws, a :: ks, _, e, .cons r1 r2 => by
    simp only [List.map_cons, List.cons.injEq] at e
    unfold lookZ
    by_cases z : a = k
    · rw [if_pos z, valV_pos (by rw [e.1, z])]
      exact r1
    · rw [if_neg z, valV_neg (fun y => z (hf _ _ (by rw [← e.1]; exact y)))]
      exact lookZ_rd hf k e.2 r2
end
end
/-- what a dict has at a key; none: no dict, or no key -/
def dLook (h : Hs) (o k : D) : Option (Option D) := match o with
  | .ref j => match h[j]? with
    | some (.dk kvs) => (kxOf k).map (lookK kvs)
    | some (.dt kvs) => (kxsOf k).map (lookK kvs)
    | _ => none
  | .dic ks vs => (kxOf k).map (lookZ ks vs)
  | .dit ks vs => (kxsOf k).map (lookZ ks vs)
  | _ => none
def isDc (h : Hs) (o : D) : Bool := match o with
  | .ref j => match h[j]? with
    | some (.dk _) => true
    | some (.dt _) => true
    | _ => false
  | .dic _ _ => true
  | .dit _ _ => true
  | _ => false
section
variable {C : Cn} {rho : List Addr} {F : Addr → Prop} {h : Hs} {H : Hp}
theorem dLook_at (g : GR C rho F h H) {vo vk : V} {o k : D} {r : Option D} (ro : RD C.K rho F H vo o) (rk : RD C.K rho F H vk k) (e : dLook h o k = some r) : ∃ a w, vo = .ref a ∧ DGet H a vk w ∧ RO C.K rho F H w r := by
  unfold dLook at e
  cases ro with
  | ref q =>
    rename_i j a
    simp only at e
    cases z : h[j]? with
    | none => simp [z] at e
    | some ob =>
      simp only [z] at e
      have z1 := g.ob j ob a z q
      cases ob with
      | dk kvs =>
        simp only at e
        obtain ⟨ws, q1, q2⟩ := z1
        cases ek : kxOf k with
        | none => rw [ek] at e; cases e
        | some kk =>
          rw [ek] at e
          cases e
          refine ⟨a, _, rfl, .inl ⟨ws, kx kk, .inl q1, kx_rd rk ek, rfl⟩, look_rd (f := kx) (fun _ _ => kx_inj) kk q2⟩
      | dt kvs =>
        simp only at e
        obtain ⟨ws, q1, q2⟩ := z1
        cases ek : kxsOf k with
        | none => rw [ek] at e; cases e
        | some kk =>
          rw [ek] at e
          cases e
          obtain ⟨b, h1, h2⟩ := kxs_rd rk ek
          refine ⟨a, _, rfl, .inr ⟨ws, kk.map kx, b, .inl q1, h1, h2, rfl⟩, look_rd (f := List.map kx) (fun _ _ => kxs_inj) kk q2⟩
      | lst _ => cases e
      | ins _ _ => cases e
  | dic f q kk r =>
    simp only at e
    cases ek : kxOf k with
    | none => rw [ek] at e; cases e
    | some k2 =>
      rw [ek] at e
      cases e
      exact ⟨_, _, rfl, .inl ⟨_, kx k2, q, kx_rd rk ek, rfl⟩, lookZ_rd (f := kx) (fun _ _ => kx_inj) k2 kk r⟩
  | dit f q kk r =>
    simp only at e
    cases ek : kxsOf k with
    | none => rw [ek] at e; cases e
    | some k2 =>
      rw [ek] at e
      cases e
      obtain ⟨b, h1, h2⟩ := kxs_rd rk ek
      exact ⟨_, _, rfl, .inr ⟨_, k2.map kx, b, q, h1, h2, rfl⟩, lookZ_rd (f := List.map kx) (fun _ _ => kxs_inj) k2 kk r⟩
  | _ => cases e
theorem isDc_at (g : GR C rho F h H) {vo : V} {o : D} (ro : RD C.K rho F H vo o) (e : isDc h o = true) : ∃ a, vo = .ref a ∧ IsD H a := by
  unfold isDc at e
  cases ro with
  | ref q =>
    rename_i j a
    simp only at e
    cases z : h[j]? with
    | none => simp [z] at e
    | some ob =>
      simp only [z] at e
      have z1 := g.ob j ob a z q
      cases ob with
      | dk kvs => obtain ⟨ws, q1, q2⟩ := z1; exact ⟨a, rfl, .inl ⟨ws, .inl q1⟩⟩
      | dt kvs => obtain ⟨ws, q1, q2⟩ := z1; exact ⟨a, rfl, .inr ⟨ws, .inl q1⟩⟩
      | lst _ => cases e
      | ins _ _ => cases e
  | dic f q kk r => exact ⟨_, rfl, .inl ⟨_, q⟩⟩
  | dit f q kk r => exact ⟨_, rfl, .inr ⟨_, q⟩⟩
  | _ => cases e
end
theorem RO.is {K : PySem.W.Frag} {rho : List Addr} {F : Addr → Prop} {H : Hp} : ∀ {v : Option V} {d : Option D}, RO K rho F H v d → v.isSome = d.isSome
  | some _, some _, _ => rfl
  | none, none, _ => rfl
  | some _, none, r => r.elim
  | none, some _, r => r.elim
/-- d[k] -/
def dGet : V2 := fun h o k => (dLook h o k).bind id
/-- k in d -/
def dIn : V2 := fun h k o => (dLook h o k).map fun r => .bl r.isSome
def dNotIn : V2 := fun h k o => (dLook h o k).map fun r => .bl (!r.isSome)
/-- d.get(k), d.get(k, x) -/
def mGet2 (mo mk mx : ME D) : ME D := fun s fl h => (mo s fl h).bind fun o h1 => if isDc h1 o then (mk s fl h1).bind fun k h2 => (mx s fl h2).bind fun x h3 => ofO ((dLook h3 o k).map fun r => r.getD x) h3 else .err
def mGet1 (mo mk : ME D) : ME D := mGet2 mo mk (mC .non)
/-- d[k] = v -/
def dPut (fl : Nat) (h : Hs) (o k v : D) : Option Hs := match o with
  | .ref j => match h[j]? with
    | some (.dk kvs) => if wrOk fl j v && decide (kvs.length < 16777216) then (kxOf k).map fun kk => h.set j (.dk (putL kvs kk v)) else none
    | some (.dt kvs) => if wrOk fl j v && decide (kvs.length < 16777216) then (kxsOf k).map fun kk => h.set j (.dt (putL kvs kk v)) else none
    | _ => none
  | _ => none
def mPut (mo mk mv : ME D) : MS := fun s fl h => (mv s fl h).bindS s fun v h1 => (mo s fl h1).bindS s fun o h2 => (mk s fl h2).bindS s fun k h3 => match dPut fl h3 o k v with
  | some h4 => .nx s h4
  | none => .err
theorem putL_vals {κ α : Type} [DecidableEq κ] {kvs : List (κ × α)} {k : κ} {v x : α} (h : x ∈ (putL kvs k v).map (·.2)) : x = v ∨ x ∈ kvs.map (·.2) := by
  unfold putL at h
  split at h
  · simp only [List.map_map, List.mem_map, Function.comp] at h
    obtain ⟨p, hp, e⟩ := h
    split at e
    · exact .inl e.symm
    · exact .inr (e ▸ List.mem_map.mpr ⟨p, hp, rfl⟩)
  · simp only [List.map_append, List.mem_append, List.map_cons, List.map_nil, List.mem_singleton] at h
    rcases h with h | h
    · exact .inr h
    · exact .inl h
theorem gd_dPut {fl : Nat} {h h2 : Hs} {o k v : D} (q : dPut fl h o k v = some h2) : Lw fl h h2 := by
  unfold dPut at q
  split at q
  · rename_i j
    split at q
    · rename_i kvs o
      split at q
      · rename_i z
        simp only [Bool.and_eq_true, decide_eq_true_eq] at z
        cases e : kxOf k with
        | none => rw [e] at q; cases q
        | some kk =>
          rw [e] at q
          cases q
          refine lw_set fun hi n hn l hj => lowL_iff.mpr fun y hy => ?_
          rcases putL_vals hy with e | e
          · subst e; exact wr_low z.1 hi
          · exact lowL_iff.mp (l _ _ hj o) y e
      · cases q
    · rename_i kvs o
      split at q
      · rename_i z
        simp only [Bool.and_eq_true, decide_eq_true_eq] at z
        cases e : kxsOf k with
        | none => rw [e] at q; cases q
        | some kk =>
          rw [e] at q
          cases q
          refine lw_set fun hi n hn l hj => lowL_iff.mpr fun y hy => ?_
          rcases putL_vals hy with e | e
          · subst e; exact wr_low z.1 hi
          · exact lowL_iff.mp (l _ _ hj o) y e
      · cases q
    · cases q
  · cases q
theorem dPut_at {C : Cn} {rho : List Addr} {F : Addr → Prop} {h h2 : Hs} {H : Hp} {fl : Nat} (g : GR C rho F h H) {vo vk vv : V} {o k v : D} (ro : RD C.K rho F H vo o) (rk : RD C.K rho F H vk k) (rv : RD C.K rho F H vv v) (e : dPut fl h o k v = some h2) :
    ∃ a H2, vo = .ref a ∧ DPut H a vk vv H2 ∧ GR C rho F h2 H2 ∧ Ext C.K rho F H rho F H2 := by
  unfold dPut at e
  split at e
  · rename_i j
    split at e
    · rename_i kvs ob
      split at e
      · rename_i z
        simp only [Bool.and_eq_true, decide_eq_true_eq] at z
        cases ek : kxOf k with
        | none => rw [ek] at e; cases e
        | some kk =>
          rw [ek] at e
          cases e
          cases ro with
          | @ref _ a q =>
            obtain ⟨ws, q1, q2⟩ := g.ob _ _ _ ob q
            have old : ∃ w, H a = some w ∧ (∀ xs, w ≠ .tup xs) ∧ (∀ ob v, w ≠ .frz ob v) := ⟨_, q1, (fun _ z => by cases z), (fun _ _ z => by cases z)⟩
            obtain ⟨w, hw, nt, nf⟩ := old
            have ex : Ext C.K rho F H rho F (upd H a (.dK (putK ws (kx kk) vv))) := by
              have q := Ext.at (K := C.K) (rho := rho) (r := []) (o := .dK (putK ws (kx kk) vv)) (H := H) (p := a) (F := F) (F' := F) (fun _ q => q) (fun b f z => g.nf a (List.mem_of_getElem? q) (z ▸ f)) (fun b xs q z => by rw [z, hw] at q; exact nt xs (Option.some.inj q)) (fun b ob v q z => by rw [z, hw] at q; exact nf ob v (Option.some.inj q))
              rw [List.append_nil] at q
              exact q
            obtain ⟨g2, e2⟩ := g.write (o := .dk (putL kvs kk v)) (u := .dK (putK ws (kx kk) vv)) q ⟨w, hw, nt, nf⟩ ⟨_, upd_same, put_rd (f := kx) (fun _ _ => kx_inj) kk (RD.ext ex rv) (pimp (fun a b z => ⟨z.1, RD.ext ex z.2⟩) q2)⟩
            refine ⟨a, _, rfl, .inl ⟨ws, kx kk, q1, kx_rd rk ek, ?_, rfl⟩, g2, e2⟩
            rw [sizeLine_is, Paired.length q2]
            exact z.2
      · cases e
    · rename_i kvs ob
      split at e
      · rename_i z
        simp only [Bool.and_eq_true, decide_eq_true_eq] at z
        cases ek : kxsOf k with
        | none => rw [ek] at e; cases e
        | some kk =>
          rw [ek] at e
          cases e
          cases ro with
          | @ref _ a q =>
            obtain ⟨ws, q1, q2⟩ := g.ob _ _ _ ob q
            have old : ∃ w, H a = some w ∧ (∀ xs, w ≠ .tup xs) ∧ (∀ ob v, w ≠ .frz ob v) := ⟨_, q1, (fun _ z => by cases z), (fun _ _ z => by cases z)⟩
            obtain ⟨w, hw, nt, nf⟩ := old
            have ex : Ext C.K rho F H rho F (upd H a (.dT (putK ws (kk.map kx) vv))) := by
              have q := Ext.at (K := C.K) (rho := rho) (r := []) (o := .dT (putK ws (kk.map kx) vv)) (H := H) (p := a) (F := F) (F' := F) (fun _ q => q) (fun b f z => g.nf a (List.mem_of_getElem? q) (z ▸ f)) (fun b xs q z => by rw [z, hw] at q; exact nt xs (Option.some.inj q)) (fun b ob v q z => by rw [z, hw] at q; exact nf ob v (Option.some.inj q))
              rw [List.append_nil] at q
              exact q
            obtain ⟨g2, e2⟩ := g.write (o := .dt (putL kvs kk v)) (u := .dT (putK ws (kk.map kx) vv)) q ⟨w, hw, nt, nf⟩ ⟨_, upd_same, put_rd (f := List.map kx) (fun _ _ => kxs_inj) kk (RD.ext ex rv) (pimp (fun a b z => ⟨z.1, RD.ext ex z.2⟩) q2)⟩
            obtain ⟨b, h1, h2⟩ := kxs_rd rk ek
            refine ⟨a, _, rfl, .inr ⟨ws, kk.map kx, b, q1, h1, h2, ?_, rfl⟩, g2, e2⟩
            rw [sizeLine_is, Paired.length q2]
            exact z.2
      · cases e
    · cases e
  · cases e
section
variable {X : Cx} {C : Cn} {W : WX} {o i e f value : Expr} {mo mk mx mv : ME D} {pos apos cpos pos' : Pos}
theorem tm_dop {W : WX} {fn : V2} {σ : St} {H : Hp} {Q : VK} {ma mb : ME D} {R2' : V → V → Hp → VK → Prop} (k : ∀ rho F h a b d H x y, GR C rho F h H → RD C.K rho F H x a → RD C.K rho F H y b → fn h a b = some d → (∀ v, RD C.K rho F H v d → Q v H) → R2' x y H Q) (q : TM C W (mBin fn ma mb) σ H Q) :
    TM C W ma σ H fun x H1 => TM C W mb σ H1 fun y H2 => R2' x y H2 Q := by
  have z := tm_bin q
  obtain ⟨rho, F, s, fl, h, hs, hg, ok⟩ := z
  refine ⟨rho, F, s, fl, h, hs, hg, ok.imp fun a h1 rho1 F1 H1 e1 g1 ok1 v r1 => ?_⟩
  obtain ⟨rho2, F2, s2, fl2, h2, hs2, hg2, ok2⟩ := ok1 v r1
  refine ⟨rho2, F2, s2, fl2, h2, hs2, hg2, ok2.imp fun b h3 rho3 F3 H3 e3 g3 ok3 u r3 => ?_⟩
  obtain ⟨rho4, F4, h4, a4, b4, d4, g4, ra4, rb4, e4, k4⟩ := ok3 u r3
  exact k rho4 F4 h4 a4 b4 d4 H3 v u g4 ra4 rb4 e4 fun w rw => k4 w _ _ Ext.refl g4 rw
theorem me_dget {kk : Nat} (B : Bd X C W kk) (x : PM X C W o mo) (y : PM X C W i mk) (hs : NoSl i := by intro _ _; rfl) : PM X C W (.Subscript o i pos) (mBin dGet mo mk) := by
  refine ⟨pe_imp (pe_dget B.hu1 x.pe y.pe hs) fun σ H Q q => tm_dop (R2' := fun x y H2 Q => ∃ a v, x = .ref a ∧ DGet H2 a y (some v) ∧ Q v H2) (fun rho F h a b d H x y g ra rb e k => ?_) q, gd_bin x.gd y.gd⟩
  unfold dGet at e
  cases z : dLook h a b with
  | none => rw [z] at e; cases e
  | some r =>
    rw [z] at e
    cases e
    obtain ⟨ad, w, q1, q2, q3⟩ := dLook_at g ra rb z
    cases w with
    | none => exact q3.elim
    | some w => exact ⟨ad, w, q1, q2, k w q3⟩
theorem mb_din {kk : Nat} (B : Bd X C W kk) (x : PM X C W i mk) (y : PM X C W o mo) (h1 : behindInMarks .In o = false := by with_unfolding_all rfl) : PMB X C W (.Compare i [.In] [o] pos) (mTb (mBin dIn mk mo)) := by
  refine ⟨pt_imp (pt_cmp (pc_din B.hu1 x.pe y.pe) h1) fun σ H Q ⟨rho, F, s, fl, h, hs, hg, ok⟩ => ?_, gd_Tb (gd_bin x.gd y.gd)⟩
  refine tm_dop (Q := fun x H1 => ∃ c, x = .bl c ∧ Q c H1) (R2' := fun y x H2 (Q : VK) => ∃ a o, x = .ref a ∧ DGet H2 a y o ∧ Q (.bl o.isSome) H2) (fun rho F h a b d H x y g ra rb e k => ?_) ⟨rho, F, s, fl, h, hs, hg, ok.bind.imp fun d h1 rho1 F1 H1 e1 g1 ok1 v r1 => ?_⟩
  · unfold dIn at e
    cases z : dLook h b a with
    | none => rw [z] at e; cases e
    | some r =>
      rw [z] at e
      cases e
      obtain ⟨ad, w, q1, q2, q3⟩ := dLook_at g rb ra z
      exact ⟨ad, w, q1, q2, k _ (by rw [q3.is]; exact .bl _)⟩
  · cases r1 with
    | bl k => exact ⟨k, rfl, ok1 _ _ _ Ext.refl g1⟩
    | _ => exact ok1.elim
theorem mb_dnotin {kk : Nat} (B : Bd X C W kk) (x : PM X C W i mk) (y : PM X C W o mo) (h1 : behindInMarks .NotIn o = false := by with_unfolding_all rfl) : PMB X C W (.Compare i [.NotIn] [o] pos) (mTb (mBin dNotIn mk mo)) := by
  refine ⟨pt_imp (pt_cmp (pc_dnotin B.hu1 x.pe y.pe) h1) fun σ H Q ⟨rho, F, s, fl, h, hs, hg, ok⟩ => ?_, gd_Tb (gd_bin x.gd y.gd)⟩
  refine tm_dop (Q := fun x H1 => ∃ c, x = .bl c ∧ Q c H1) (R2' := fun y x H2 (Q : VK) => ∃ a o, x = .ref a ∧ DGet H2 a y o ∧ Q (.bl (!o.isSome)) H2) (fun rho F h a b d H x y g ra rb e k => ?_) ⟨rho, F, s, fl, h, hs, hg, ok.bind.imp fun d h1 rho1 F1 H1 e1 g1 ok1 v r1 => ?_⟩
  · unfold dNotIn at e
    cases z : dLook h b a with
    | none => rw [z] at e; cases e
    | some r =>
      rw [z] at e
      cases e
      obtain ⟨ad, w, q1, q2, q3⟩ := dLook_at g rb ra z
      exact ⟨ad, w, q1, q2, k _ (by rw [q3.is]; exact .bl _)⟩
  · cases r1 with
    | bl k => exact ⟨k, rfl, ok1 _ _ _ Ext.refl g1⟩
    | _ => exact ok1.elim
theorem gd_get2 (x : Gd mo) (y : Gd mk) (z : Gd mx) : Gd (mGet2 mo mk mx) := gd_bind x fun o => fun s fl h hf => gd_if_ok ((y s fl h hf).bind fun k h2 le => (z s fl h2 (Nat.le_trans hf le)).bind fun w h3 _ => gd_ofO _)
theorem me_get2 {kk : Nat} (B : Bd X C W kk) (x : PM X C W o mo) (y : PM X C W e mk) (z : PM X C W f mx) (m : M2 X o "get" apos e f cpos := by exact ⟨rfl, rfl, rfl, rfl⟩) : PM X C W (.Call (.Attribute o "get" apos) [e, f] [] cpos) (mGet2 mo mk mx) := by
  refine ⟨pe_imp (pe_dget2 B.hu1 x.pe y.pe z.pe m) fun σ H Q ⟨rho, F, s, fl, h, hs, hg, ok⟩ => ⟨rho, F, s, fl, h, hs, hg, ok.bind.imp fun od h1 rho1 F1 H1 e1 g1 ok1 v r1 => ?_⟩, gd_get2 x.gd y.gd z.gd⟩
  split at ok1
  · rename_i dc
    obtain ⟨a, q1, q2⟩ := isDc_at g1 r1 dc
    refine ⟨a, q1, q2, rho1, F1, s, fl, h1, hs.ext e1, g1, ok1.bind.imp fun kd h2 rho2 F2 H2 e2 g2 ok2 vk r2 => ?_⟩
    refine ⟨rho2, F2, s, fl, h2, hs.ext (e1.trans e2), g2, ok2.bind.imp fun xd h3 rho3 F3 H3 e3 g3 ok3 vx r3 => ?_⟩
    cases ek : dLook h3 od kd with
    | none => rw [ek] at ok3; exact ok3.elim
    | some r =>
      rw [ek] at ok3
      obtain ⟨a', w, p1, p2, p3⟩ := dLook_at g3 (RD.ext (e2.trans e3) r1) (RD.ext e3 r2) ek
      rw [q1] at p1
      cases p1
      refine ⟨w, p2, ok3 _ _ _ Ext.refl g3 _ ?_⟩
      cases w with
      | none => cases r with
        | none => exact r3
        | some _ => exact p3.elim
      | some w => cases r with
        | none => exact p3.elim
        | some r => exact p3
  · exact ok1.elim
theorem me_get1 {kk : Nat} (B : Bd X C W kk) (x : PM X C W o mo) (y : PM X C W e mk) (m : M1 X o "get" apos e cpos := by exact ⟨rfl, rfl, rfl, rfl⟩) : PM X C W (.Call (.Attribute o "get" apos) [e] [] cpos) (mGet1 mo mk) := by
  refine ⟨pe_imp (pe_dget1 B.hu1 x.pe y.pe m) fun σ H Q ⟨rho, F, s, fl, h, hs, hg, ok⟩ => ⟨rho, F, s, fl, h, hs, hg, ok.bind.imp fun od h1 rho1 F1 H1 e1 g1 ok1 v r1 => ?_⟩, gd_get2 x.gd y.gd gd_c⟩
  split at ok1
  · rename_i dc
    obtain ⟨a, q1, q2⟩ := isDc_at g1 r1 dc
    refine ⟨a, q1, q2, rho1, F1, s, fl, h1, hs.ext e1, g1, ok1.bind.imp fun kd h2 rho2 F2 H2 e2 g2 ok2 vk r2 => ?_⟩
    simp only [mC, R.bind_ok] at ok2
    cases ek : dLook h2 od kd with
    | none => rw [ek] at ok2; exact ok2.elim
    | some r =>
      rw [ek] at ok2
      obtain ⟨a', w, p1, p2, p3⟩ := dLook_at g2 (RD.ext e2 r1) r2 ek
      rw [q1] at p1
      cases p1
      refine ⟨w, p2, ok2 _ _ _ Ext.refl g2 _ ?_⟩
      cases w with
      | none => cases r with
        | none => exact .non
        | some _ => exact p3.elim
      | some w => cases r with
        | none => exact p3.elim
        | some r => exact p3
  · exact ok1.elim
theorem ms_dput {kk : Nat} (B : Bd X C W kk) (x : PM X C W o mo) (y : PM X C W i mk) (z : PM X C W value mv) (hs : swapsWith value (some (.Subscript o i pos')) pos.line X.env = pure false := by rfl) : PMS X C W (.Assign [.Subscript o i pos'] value pos) (mPut mo mk mv) := by
  refine ⟨ps_imp (ps_dput B.hu1 x.pe y.pe z.pe hs) fun DD σ H ⟨rho, F, s, fl, h, hs, hg, ok⟩ => ⟨rho, F, s, fl, h, hs, hg, (ok.bindS hs).imp fun v h1 rho1 F1 H1 e1 g1 ok1 vv r1 => ?_⟩, fun s fl h hf => (z.gd s fl h hf).bindS fun v h1 le => (x.gd s fl h1 (Nat.le_trans hf le)).bindS fun od h2 le2 => (y.gd s fl h2 (Nat.le_trans (Nat.le_trans hf le) le2)).bindS fun kd h3 le3 => ?_⟩
  · refine ⟨rho1, F1, s, fl, h1, hs.ext e1, g1, (ok1.bindS (hs.ext e1)).imp fun od h2 rho2 F2 H2 e2 g2 ok2 vo r2 => ?_⟩
    refine ⟨rho2, F2, s, fl, h2, hs.ext (e1.trans e2), g2, (ok2.bindS (hs.ext (e1.trans e2))).imp fun kd h3 rho3 F3 H3 e3 g3 ok3 vk r3 => ?_⟩
    cases q : dPut fl h3 od kd v with
    | none => rw [q] at ok3; exact ok3.elim
    | some h4 =>
      rw [q] at ok3
      obtain ⟨a, H4, q1, q2, q3, q4⟩ := dPut_at g3 (RD.ext e3 r2) r3 (RD.ext (e2.trans e3) r1) q
      exact ⟨a, H4, q1, q2, ok3 σ _ _ _ q4 q3 (hs.ext (e1.trans (e2.trans (e3.trans q4))))⟩
  · cases q : dPut fl h3 od kd v with
    | none => trivial
    | some h4 => exact gd_dPut q
/-- {} -/
def mDK : ME D := fun _ _ h => .ok (.ref h.length) (h ++ [.dk []])
def mDT : ME D := fun _ _ h => .ok (.ref h.length) (h ++ [.dt []])
theorem me_dk : PM X C W (.Dict [] [] pos) mDK := by
  refine ⟨pe_imp pe_dnewK fun σ H Q ⟨rho, F, s, fl, h, hs, hg, ok⟩ p hp => ?_, fun s fl h hf => Lw.push hf _⟩
  obtain ⟨g2, e2⟩ := hg.push (o := .dk []) (u := .dK []) hp ⟨[], upd_same, .nil⟩
  exact ok _ _ _ e2 g2 _ (.ref (by rw [← hg.len]; simp))
theorem me_dt : PM X C W (.Dict [] [] pos) mDT := by
  refine ⟨pe_imp pe_dnewT fun σ H Q ⟨rho, F, s, fl, h, hs, hg, ok⟩ p hp => ?_, fun s fl h hf => Lw.push hf _⟩
  obtain ⟨g2, e2⟩ := hg.push (o := .dt []) (u := .dT []) hp ⟨[], upd_same, .nil⟩
  exact ok _ _ _ e2 g2 _ (.ref (by rw [← hg.len]; simp))
end
end NC

namespace NC
open PySem PySem.Spec L2
open PyProof.Rows hiding St
abbrev VL := Hs → List D → Option D
def RLf (C : Cn) (f : VL) : List V → Hp → VK → Prop := fun vs H Q => ∃ rho F h ds d, GR C rho F h H ∧ RDs C.K rho F H vs ds ∧ f h ds = some d ∧ Fin1 C rho F h H d Q
def mBlt (f : VL) (ma : ME (List D)) : ME D := fun s fl h => (ma s fl h).bind fun ds h1 => ofO (f h1 ds) h1
section
variable {X : Cx} {C : Cn} {W : WX} {x : Str} {p pos apos cpos : Pos} {e o : Expr} {es : List Expr} {ma : ME (List D)} {mo me : ME D} {id T : String} {f : VL}
theorem gd_blt (x : Gd ma) : Gd (mBlt f ma) := gd_bind x fun ds => fun s fl h hf => gd_ofO _
theorem tm_blt {σ : St} {H : Hp} {Q : VK} (q : TM C W (mBlt f ma) σ H Q) : tCB (RLf C f) (TL C W ma) σ H Q := by
  obtain ⟨rho, F, s, fl, h, hs, hg, ok⟩ := q
  refine ⟨rho, F, s, fl, h, hs, hg, ok.bind.imp fun ds h1 rho1 F1 H1 e1 g1 ok1 vs r1 => ?_⟩
  cases z : f h1 ds with
  | none => rw [z] at ok1; exact ok1.elim
  | some d =>
    rw [z] at ok1
    exact ⟨rho1, F1, h1, ds, d, g1, r1, z, fun w F2 H2 e2 g2 r2 => ok1 rho1 F2 H2 e2 g2 w r2⟩
theorem me_blt (hc : CallR X (.builtin id) (RLf C f)) (hm : X.mg x = none) (y : PMA X C W (e :: es) ma) (hv : bootBuiltins x = some (.builtin id) := by decide +kernel) (hg : Gl X x := by rfl) (hn : x ≠ "__name__" := by decide) (hdb : (x == ("__debug__" : Str)) = false := by decide)
    (he : starEach (e :: es) X.env = (false, eval e X.env) :: starEach es X.env := by rfl) (hpl : (backTo pos (starEach es X.env)).any (·.1) = false := by rfl) : PM X C W (.Call (.Name x p) (e :: es) [] pos) (mBlt f ma) :=
  ⟨pe_imp (pe_callB hc hg hm hv y.pa hn hdb he hpl) fun _ _ _ q => tm_blt q, gd_blt y.gd⟩
theorem me_bltT (hc : CallR X (.type T) (RLf C f)) (hm : X.mg x = none) (y : PMA X C W (e :: es) ma) (hv : bootBuiltins x = some (.type T) := by decide +kernel) (hg : Gl X x := by rfl) (hn : x ≠ "__name__" := by decide) (hdb : (x == ("__debug__" : Str)) = false := by decide)
    (he : starEach (e :: es) X.env = (false, eval e X.env) :: starEach es X.env := by rfl) (hpl : (backTo pos (starEach es X.env)).any (·.1) = false := by rfl) : PM X C W (.Call (.Name x p) (e :: es) [] pos) (mBlt f ma) :=
  ⟨pe_imp (pe_callTy hc hg hm hv y.pa hn hdb he hpl) fun _ _ _ q => tm_blt q, gd_blt y.gd⟩
def lenF : VL := fun h ds => match ds with
  | [d] => match vw h d with
    | .lst xs => some (.int xs.length)
    | .tup xs => some (.int xs.length)
    | .str l => some (.int l.length)
    | _ => none
  | _ => none
theorem cr_len : CallR X (.builtin "len") (RLf C lenF) := by
  intro pins s σ H xs us Q I r q
  obtain ⟨rho, F, h, ds, d, g, rr, e, k⟩ := q
  unfold lenF at e
  split at e
  · rename_i d1
    cases rr with
    | cons r1 r2 =>
      cases r2
      split at e
      · rename_i l e1
        cases e
        obtain ⟨a, vs, q1, q2, q3⟩ := vw_lst g r1 e1
        refine call_len_seq pins s σ H _ us Q I r ⟨a, vs, by rw [q1], .inl (SqL.of q2), ?_⟩
        rw [q3.length]
        exact k.here g (.int _)
      · rename_i l e1
        cases e
        obtain ⟨a, vs, q1, q2, q3⟩ := vw_tup r1 e1
        refine call_len_seq pins s σ H _ us Q I r ⟨a, vs, by rw [q1], .inr (SqT.of q2), ?_⟩
        rw [q3.length]
        exact k.here g (.int _)
      · rename_i l e1
        cases e
        obtain ⟨q1, ok⟩ := vw_str r1 e1
        refine call_len_str pins s σ H _ us Q I r ⟨_, by rw [q1], by rw [sizeLine_is]; exact ok.1, ?_⟩
        exact k.here g (.int _)
      · cases e
  · cases e
def absF : VL := fun _ ds => match ds with
  | [.int i] => some (.int (if i < 0 then -i else i))
  | _ => none
theorem cr_abs : CallR X (.builtin "abs") (RLf C absF) := by
  intro pins s σ H xs us Q I r q
  obtain ⟨rho, F, h, ds, d, g, rr, e, k⟩ := q
  unfold absF at e
  split at e
  · rename_i i
    cases e
    cases rr with
    | cons r1 r2 =>
      cases r2
      cases r1
      exact call_abs pins s σ H _ us Q I r ⟨i, rfl, k.here g (.int _)⟩
  · cases e
def max2F : VL := fun _ ds => match ds with
  | [.int i, .int j] => some (.int (if j > i then j else i))
  | _ => none
def min2F : VL := fun _ ds => match ds with
  | [.int i, .int j] => some (.int (if j < i then j else i))
  | _ => none
theorem cr_max2 (hc : X.calm = true) : CallR X (.builtin "max") (RLf C max2F) := by
  intro pins s σ H xs us Q I r q
  obtain ⟨rho, F, h, ds, d, g, rr, e, k⟩ := q
  unfold max2F at e
  split at e
  · rename_i i j
    cases e
    cases rr with
    | cons r1 r2 =>
      cases r2 with
      | cons r2 r3 =>
        cases r3
        cases r1
        cases r2
        exact call_max2 hc pins s σ H _ us Q I r ⟨i, j, rfl, k.here g (.int _)⟩
  · cases e
theorem cr_min2 (hc : X.calm = true) : CallR X (.builtin "min") (RLf C min2F) := by
  intro pins s σ H xs us Q I r q
  obtain ⟨rho, F, h, ds, d, g, rr, e, k⟩ := q
  unfold min2F at e
  split at e
  · rename_i i j
    cases e
    cases rr with
    | cons r1 r2 =>
      cases r2 with
      | cons r2 r3 =>
        cases r3
        cases r1
        cases r2
        exact call_min2 hc pins s σ H _ us Q I r ⟨i, j, rfl, k.here g (.int _)⟩
  · cases e
/-- list(xs), not written; tuple(xs) -/
def listF : VL := fun h ds => match ds with
  | [.scr ns] => some (.lst (ns.map .int))
  | [d] => match vw h d with
    | .lst xs => some (.lst xs)
    | .tup xs => some (.lst xs)
    | _ => none
  | _ => none
theorem rds_ints {K : PySem.W.Frag} {rho : List Addr} {F : Addr → Prop} {H : Hp} : ∀ l : List Int, RDs K rho F H (l.map V.int) (l.map D.int)
  | [] => .nil
  | x :: xs => .cons (.int x) (rds_ints xs)
theorem listF_at (hK : X.K = C.K) {rho : List Addr} {F : Addr → Prop} {h : Hs} {H : Hp} (g : GR C rho F h H) {vs : List V} {ds : List D} {d : D} (r : RDs C.K rho F H vs ds) (e : listF h ds = some d) : ∃ a ys xs, vs = [.ref a] ∧ (SqL X.K H a ys ∨ SqT X.K H a ys) ∧ RDs C.K rho F H ys xs ∧ d = .lst xs := by
  unfold listF at e
  split at e
  · rename_i ns
    cases e
    cases r with
    | cons r1 r2 =>
      cases r2
      cases r1 with
      | scr q => exact ⟨_, _, _, rfl, .inl (by rw [hK]; exact q.sq), rds_ints ns, rfl⟩
  · rename_i d1 _
    cases r with
    | cons r1 r2 =>
      cases r2
      split at e
      · rename_i xs e1
        cases e
        obtain ⟨a, vs, q1, q2, q3⟩ := vw_lst g r1 e1
        exact ⟨a, vs, xs, by rw [q1], .inl (SqL.of q2), q3, rfl⟩
      · rename_i xs e1
        cases e
        obtain ⟨a, vs, q1, q2, q3⟩ := vw_tup r1 e1
        exact ⟨a, vs, xs, by rw [q1], .inr (SqT.of q2), q3, rfl⟩
      · cases e
  · cases e
theorem cr_listF (hK : X.K = C.K) : CallR X (.type "list") (RLf C listF) := by
  intro pins s σ H xs us Q I r q
  obtain ⟨rho, F, h, ds, d, g, rr, e, k⟩ := q
  obtain ⟨a, ys, zs, q1, q2, q3, q4⟩ := listF_at (X := X) hK g rr e
  subst q4
  exact call_list_of pins s σ H xs us Q I r ⟨a, ys, q1, q2, k.newL g q3⟩
/-- list(xs), to be written -/
def mListM (ma : ME (List D)) : ME D := fun s fl h => (ma s fl h).bind fun ds h1 => match listF h1 ds with
  | some (.lst xs) => .ok (.ref h1.length) (h1 ++ [.lst xs])
  | _ => .err
theorem me_listM (hK : X.K = C.K) (hm : X.mg "list" = none) (y : PMA X C W (e :: es) ma) (hg : Gl X "list" := by rfl)
    (he : starEach (e :: es) X.env = (false, eval e X.env) :: starEach es X.env := by rfl) (hpl : (backTo pos (starEach es X.env)).any (·.1) = false := by rfl) : PM X C W (.Call (.Name "list" p) (e :: es) [] pos) (mListM ma) := by
  refine ⟨pe_imp (pe_callTy call_list_of hg hm (by decide +kernel) y.pa (by decide) (by decide) he hpl) fun σ H Q ⟨rho, F, s, fl, h, hs, hg, ok⟩ => ⟨rho, F, s, fl, h, hs, hg, ok.bind.imp fun ds h1 rho1 F1 H1 e1 g1 ok1 vs r1 => ?_⟩, gd_bind y.gd fun ds => fun s fl h hf => ?_⟩
  · cases z : listF h1 ds with
    | none => rw [z] at ok1; exact ok1.elim
    | some d =>
      obtain ⟨a, ys, zs, q1, q2, q3, q4⟩ := listF_at (X := X) hK g1 r1 z
      subst q4
      rw [z] at ok1
      refine ⟨a, ys, q1, q2, fun l hl => ?_⟩
      have ex : Ext C.K rho1 F1 H1 (rho1 ++ [l]) F1 (upd H1 l (.lst ys)) := Ext.at (fun _ q => q) (fun a f => let ⟨_, z⟩ := g1.ft a f; ne_of_none z hl) (fun a xs z => ne_of_none z hl) (fun a o u z => ne_of_none z hl)
      obtain ⟨g2, e2⟩ := g1.push (o := .lst zs) (u := .lst ys) hl ⟨ys, upd_same, RDs.ext ex q3⟩
      exact ok1 _ _ _ e2 g2 _ (.ref (by rw [← g1.len]; simp))
  · split
    · exact Lw.push hf _
    · trivial
def tupF : VL := fun h ds => match ds with
  | [d] => match vw h d with
    | .lst xs => some (.tup xs)
    | .tup xs => some (.tup xs)
    | _ => none
  | _ => none
theorem cr_tupF : CallR X (.type "tuple") (RLf C tupF) := by
  intro pins s σ H xs us Q I r q
  obtain ⟨rho, F, h, ds, d, g, rr, e, k⟩ := q
  unfold tupF at e
  split at e
  · rename_i d1
    cases rr with
    | cons r1 r2 =>
      cases r2
      split at e
      · rename_i l e1
        cases e
        obtain ⟨a, vs, q1, q2, q3⟩ := vw_lst g r1 e1
        exact call_tuple_of pins s σ H _ us Q I r ⟨a, vs, by rw [q1], .inl ⟨SqL.of q2, k.newT g q3⟩⟩
      · rename_i l e1
        cases e
        obtain ⟨a, vs, q1, q2, q3⟩ := vw_tup r1 e1
        exact call_tuple_of pins s σ H _ us Q I r ⟨a, vs, by rw [q1], .inr ⟨SqT.of q2, k.here g (.tup q2 q3)⟩⟩
      · cases e
  · cases e
/-- a list to be written, and where -/
def lsAt (h : Hs) (o : D) : Option (Nat × List D) := match o with
  | .ref j => match h[j]? with
    | some (.lst xs) => some (j, xs)
    | _ => none
  | _ => none
theorem lsAt_at {rho : List Addr} {F : Addr → Prop} {h : Hs} {H : Hp} (g : GR C rho F h H) {v : V} {o : D} {j : Nat} {xs : List D} (r : RD C.K rho F H v o) (e : lsAt h o = some (j, xs)) : ∃ a vs, v = .ref a ∧ rho[j]? = some a ∧ h[j]? = some (.lst xs) ∧ H a = some (.lst vs) ∧ RDs C.K rho F H vs xs := by
  unfold lsAt at e
  split at e
  · rename_i i
    split at e
    · rename_i ys o
      cases e
      cases r with
      | ref q =>
        obtain ⟨vs, q1, q2⟩ := g.ob _ _ _ o q
        exact ⟨_, vs, rfl, q, o, q1, q2⟩
    · cases e
  · cases e
theorem GR.setL {rho : List Addr} {F : Addr → Prop} {h : Hs} {H : Hp} (g : GR C rho F h H) {a : Addr} {j : Nat} {vs : List V} {ws : List V} {ys : List D} (hj : rho[j]? = some a) (ha : H a = some (.lst vs)) (r : RDs C.K rho F H ws ys) :
    GR C rho F (h.set j (.lst ys)) (upd H a (.lst ws)) ∧ Ext C.K rho F H rho F (upd H a (.lst ws)) := by
  have ex : Ext C.K rho F H rho F (upd H a (.lst ws)) := by
    have q := Ext.at (K := C.K) (rho := rho) (r := []) (o := .lst ws) (H := H) (p := a) (F := F) (F' := F) (fun _ q => q) (fun b f z => g.nf a (List.mem_of_getElem? hj) (z ▸ f)) (fun b xs q z => by rw [z, ha] at q; cases q) (fun b ob v q z => by rw [z, ha] at q; cases q)
    rw [List.append_nil] at q
    exact q
  exact g.write hj ⟨_, ha, (fun xs z => by cases z), (fun ob v z => by cases z)⟩ ⟨ws, upd_same, RDs.ext ex r⟩
theorem lw_setL {fl j : Nat} {h : Hs} {xs ys : List D} (o : h[j]? = some (.lst xs)) (k : j < fl → ∀ n, n ≤ fl → (∀ y ∈ xs, y.low n = true) → ∀ y ∈ ys, y.low n = true) : Lw fl h (h.set j (.lst ys)) :=
  lw_set fun hi n hn l hj => lowL_iff.mpr (k hi n hn (lowL_iff.mp (l _ _ hj o)))
/-- xs.append(e) -/
def mApp (mo me : ME D) : ME D := fun s fl h => (mo s fl h).bind fun o h1 => if (lsAt h1 o).isSome then (me s fl h1).bind fun d h2 => match lsAt h2 o with
  | some (j, xs) => if wrOk fl j d && decide (xs.length < 16777216) then .ok .non (h2.set j (.lst (xs ++ [d]))) else .err
  | none => .err
  else .err
theorem me_app (x : PM X C W o mo) (y : PM X C W e me) (hbase : attributeBase o "append" X.env (eval o X.env) = eval o X.env := by rfl)
    (hfew : ((backTo cpos (starEach [e] X.env)).all (fun x => !x.1) && (backToKw cpos (keywordEach [] X.env)).all (fun x => x.1.isSome)
      && decide ([e].length + ([] : List Keyword).length + (if ([] : List Keyword).isEmpty then 0 else 1) < 30)) = true := by rfl)
    (hline : (apos.endLine == cpos.line) = true := by rfl) (hs : starEach [e] X.env = (false, eval e X.env) :: starEach [] X.env := by rfl) (hplain : (backTo cpos (starEach [] X.env)).any (·.1) = false := by rfl) :
    PM X C W (.Call (.Attribute o "append" apos) [e] [] cpos) (mApp mo me) := by
  refine ⟨pe_imp (pe_bm PySem.F.plainAttrs_list PySem.F.slot_list_append PySem.F.type_list_append mt_append x.pe (pa_cons y.pe pa_nil hs) hbase hfew hline hs hplain) fun σ H Q ⟨rho, F, s, fl, h, hs, hg, ok⟩ => ⟨rho, F, s, fl, h, hs, hg, ok.bind.imp fun d h1 rho1 F1 H1 e1 g1 ok1 v r1 => ?_⟩, gd_bind x.gd fun d => fun s fl h hf => gd_if_ok ((y.gd s fl h hf).bind fun d2 h2 le => ?_)⟩
  · split at ok1
    · rename_i z
      obtain ⟨⟨j, xs⟩, z⟩ := Option.isSome_iff_exists.mp z
      obtain ⟨a, vs, q1, q2, q0, q3, q4⟩ := lsAt_at g1 r1 z
      refine ⟨by rw [q1]; exact .inl ⟨rfl, _, SqL.of q3⟩, rho1, F1, s, fl, h1, hs.ext e1, g1, ok1.bind.imp fun d2 h2 rho2 F2 H2 e2 g2 ok2 v2 r2 => ?_⟩
      show rAppend v [v2] H2 Q
      cases z2 : lsAt h2 d with
      | none => rw [z2] at ok2; exact ok2.elim
      | some p =>
        obtain ⟨j2, ys⟩ := p
        rw [z2] at ok2
        simp only at ok2
        split at ok2
        · rename_i w
          simp only [Bool.and_eq_true, decide_eq_true_eq] at w
          obtain ⟨a', vs', p1, p2, p0, p3, p4⟩ := lsAt_at g2 (RD.ext e2 r1) z2
          rw [q1] at p1
          cases p1
          obtain ⟨g3, e3⟩ := g2.setL p2 p3 (p4.append (.cons r2 .nil))
          exact ⟨a, vs', v2, q1, rfl, p3, by rw [sizeLine_is, p4.length]; exact w.2, ok2 _ _ _ e3 g3 _ .non⟩
        · exact ok2.elim
    · exact ok1.elim
  · cases z2 : lsAt h2 d with
    | none => trivial
    | some p =>
      obtain ⟨j2, ys⟩ := p
      simp only
      split
      · rename_i w
        simp only [Bool.and_eq_true, decide_eq_true_eq] at w
        have o : h2[j2]? = some (.lst ys) := by
          unfold lsAt at z2
          split at z2
          · split at z2
            · cases z2; assumption
            · cases z2
          · cases z2
        refine lw_setL o fun hi n hn al y hy => ?_
        rcases List.mem_append.mp hy with m | m
        · exact al y m
        · simp at m
          subst m
          exact wr_low w.1 hi
      · trivial
/-- sep.join(xs) -/
def joinS (sep : List Nat) : List (List Nat) → List Nat
  | [] => []
  | [x] => x
  | x :: xs => x ++ sep ++ joinS sep xs
end
end NC

namespace NC
open PySem PySem.Spec L2
open PyProof.Rows hiding St
def wipeS (s : SS) : List Nat → SS
  | [] => s
  | v :: vs => (wipeS s vs).set v none
theorem sr_wipe {K : PySem.W.Frag} {rho : List Addr} {F : Addr → Prop} {H : Hp} {σ : St} {s : SS} (r : SR K rho F H σ s) : ∀ vs : List Nat, SR K rho F H (wipe σ vs) (wipeS s vs)
  | [] => r
  | v :: vs => by
    have ih := sr_wipe r vs
    refine ⟨by simp [wipe, wipeS, ih.1], fun i d h => ?_⟩
    unfold wipeS at h
    unfold wipe
    by_cases e : v = i
    · subst e
      rw [List.getElem?_set] at h
      simp at h
    · rw [List.getElem?_set_ne e] at h ⊢
      exact ih.2 i d h
theorem wipe_at {σ : St} {i : Nat} {x : Option V} : ∀ {vs : List Nat}, i ∈ vs → wipe (σ.set i x) vs = wipe σ vs
  | [], h => by simp at h
  | v :: vs, h => by
    unfold wipe
    by_cases e : i ∈ vs
    · rw [wipe_at e]
    · have ei : i = v := by
        rcases List.mem_cons.mp h with q | q
        · exact q
        · exact absurd q e
      subst ei
      have : ∀ (ws : List Nat), i ∉ ws → wipe (σ.set i x) ws = (wipe σ ws).set i x := by
        intro ws
        induction ws with
        | nil => intro _; rfl
        | cons w ws ih =>
          intro hw
          simp only [List.mem_cons, not_or] at hw
          show (wipe (σ.set i x) ws).set w none = ((wipe σ ws).set w none).set i x
          rw [ih hw.2, List.set_comm _ _ (Ne.symm hw.1)]
      rw [this vs e, List.set_set]
theorem wipe_wipe {σ : St} : ∀ {vs : List Nat} (ws : List Nat), (∀ v ∈ ws, v ∈ vs) → wipe (wipe σ ws) vs = wipe σ vs
  | vs, [], _ => rfl
  | vs, w :: ws, h => by
    show wipe ((wipe σ ws).set w none) vs = _
    rw [wipe_at (h w (by simp)), wipe_wipe ws fun v hv => h v (by simp [hv])]
/-- a comprehension's target: names of its own -/
def TGc (C : Cn) (g : MG) (vs : List Nat) : TG := fun v σ H Q => ∃ rho F s fl h d, SR C.K rho F H σ s ∧ GR C rho F h H ∧ RD C.K rho F H v d ∧ ∃ s', g d s fl h = some (s', h) ∧ ∀ σ', SR C.K rho F H σ' s' → wipe σ' vs = wipe σ vs → Q σ' H
structure PMC (X : Cx) (C : Cn) (tg : Expr) (g : MG) (vs : List Nat) : Prop where
  pg : PG X tg (TGc C g vs)
  same : ∀ d s fl h s' h', g d s fl h = some (s', h') → h' = h
section
variable {X : Cx} {C : Cn} {W : WX} {pos : Pos} {vs : List Nat}
theorem mc_name (i : Nat) {x : Str} (hN : X.N.Nodup) (hv : i ∈ vs) (hi : X.N[i]? = some x := by rfl) (hx : Loc X.env.scope x := by first | exact Or.inl rfl | exact Or.inr rfl) (hf : X.fn x = true ∨ X.env.scope.names.lookup x = some .local := by first | exact .inl rfl | exact .inr rfl | assumption) : PMC X C (.Name x pos) (gN i) vs := by
  refine ⟨pg_imp (pg_name hN hi hx hf) fun v σ H Q ⟨rho, F, s, fl, h, d, hs, hg, r, s', e, k⟩ => ?_, fun d s fl h s' h' e => by cases e; rfl⟩
  cases e
  exact k _ (hs.set i r) (wipe_at hv)
def TGsc (C : Cn) (g : MGs) (vs : List Nat) : TGs := fun us σ H Q => ∃ rho F s fl h ds, SR C.K rho F H σ s ∧ GR C rho F h H ∧ RDs C.K rho F H us ds ∧ ∃ s', g ds s fl h = some (s', h) ∧ ∀ σ', SR C.K rho F H σ' s' → wipe σ' vs = wipe σ vs → Q σ' H
structure PMCs (X : Cx) (C : Cn) (tgs : List Expr) (g : MGs) (vs : List Nat) : Prop where
  pg : PGs X tgs (TGsc C g vs)
  same : ∀ d s fl h s' h', g d s fl h = some (s', h') → h' = h
theorem mcs_nil : PMCs X C [] gsNil vs := by
  refine ⟨pgs_imp pgs_nil fun v σ H Q ⟨rho, F, s, fl, h, d, hs, hg, r, s', e, k⟩ => ?_, fun d s fl h s' h' e => ?_⟩
  · cases r with
    | nil => cases e; exact ⟨rfl, k _ hs rfl⟩
    | cons _ _ => cases e
  · cases d with
    | nil => cases e; rfl
    | cons _ _ => cases e
theorem mcs_cons {tg : Expr} {tgs : List Expr} {g : MG} {gs : MGs} (x : PMC X C tg g vs) (y : PMCs X C tgs gs vs) (hs : (assignEach (tg :: tgs) X.env).map (·.2) = assign tg X.env :: (assignEach tgs X.env).map (·.2) := by rfl) : PMCs X C (tg :: tgs) (gsCons g gs) vs := by
  refine ⟨pgs_imp (pgs_cons x.pg y.pg hs) fun v σ H Q ⟨rho, F, s, fl, h, d, hs, hg, r, s', e, k⟩ => ?_, fun d s fl h s' h' e => ?_⟩
  · cases r with
    | nil => cases e
    | @cons v1 vs1 d1 ds1 r1 r2 =>
      unfold gsCons at e
      simp only at e
      cases o : g d1 s fl h with
      | none => rw [o] at e; cases e
      | some p =>
        rw [o] at e
        obtain ⟨s1, h1⟩ := p
        have eh := x.same _ _ _ _ _ _ o
        subst eh
        refine ⟨v1, vs1, rfl, rho, F, s, fl, h1, d1, hs, hg, r1, s1, o, fun σ1 q1 w1 => ?_⟩
        exact ⟨rho, F, s1, fl, h1, ds1, q1, hg, r2, s', e, fun σ2 q2 w2 => k σ2 q2 (w2.trans w1)⟩
  · cases d with
    | nil => cases e
    | cons d1 ds1 =>
      unfold gsCons at e
      simp only at e
      cases o : g d1 s fl h with
      | none => rw [o] at e; cases e
      | some p =>
        rw [o] at e
        have e1 := x.same _ _ _ _ _ _ o
        have e2 := y.same _ _ _ _ _ _ e
        rw [e2, e1]
theorem mc_tup {tgs : List Expr} {k n : Nat} {gs : MGs} (hc : X.calm = true) (y : PMCs X C tgs gs vs) (hn : (assignEach tgs X.env).length = n := by rfl) (hst : (assignEach tgs X.env).findIdx? (·.1) = none := by rfl) : PMC X C (.Tuple tgs k pos) (gTp n gs) vs := by
  refine ⟨pg_imp (pg_tup hc y.pg hn hst) fun v σ H Q ⟨rho, F, s, fl, h, d, hs, hg, r, s', e, kk⟩ => ?_, fun d s fl h s' h' e => ?_⟩
  · cases r with
    | tup q r =>
      unfold gTp at e
      simp only at e
      split at e
      · rename_i hz
        exact ⟨_, _, rfl, SqT.of q, by rw [r.length]; exact hz, rho, F, s, fl, h, _, hs, hg, r, s', e, kk⟩
      · cases e
    | _ => cases e
  · unfold gTp at e
    split at e
    · split at e
      · exact y.same _ _ _ _ _ _ e
      · cases e
    · cases e
/-- the tests of a clause -/
structure PMT (X : Cx) (C : Cn) (W : WX) (ifs : List Expr) (m : ME Bool) : Prop where
  pt : PTs X ifs (TB C W m)
  gd : Gd m
def mYes : ME Bool := fun _ _ h => .ok true h
theorem pts_imp {ifs : List Expr} {t t' : TT} (h : PTs X ifs t) (i : ∀ σ H Q, t' σ H Q → t σ H Q) : PTs X ifs t' := ⟨fun pins s σ H Q I q => h.run pins s σ H Q I (i σ H Q q)⟩
theorem mts_nil : PMT X C W [] mYes := ⟨pts_imp pts_nil fun σ H Q ⟨rho, F, s, fl, h, hs, hg, ok⟩ => ok _ _ _ Ext.refl hg, fun _ _ _ _ => Lw.refl⟩
theorem mts_one {c : Expr} {m : ME Bool} (x : PMB X C W c m) : PMT X C W [c] m := ⟨pts_one x.pt, x.gd⟩
def R.bindN {α β : Type} (r : R α) (f : α → Hs → R β) : R β := match r with
  | .ok a h => f a h
  | _ => .err
@[simp] theorem R.bindN_ok {α β : Type} (a : α) (h : Hs) (f : α → Hs → R β) : (R.ok a h).bindN f = f a h := rfl
def mLcL (g : MG) (tt : ME Bool) (te : ME D) (own : List Nat) (n : Nat) : List D → SS → Hs → R Unit
  | [], _, hh => .ok () hh
  | d :: ds, s, hh => match g d (wipeS s own) n hh with
    | none => .err
    | some p => (tt p.1 n p.2).bindN fun b h2 => if b then (te p.1 n h2).bindN fun y h3 => match h3[n]? with
        | some (.lst acc) => if acc.length < 16777216 then mLcL g tt te own n ds s (h3.set n (.lst (acc ++ [y]))) else .err
        | _ => .err
      else mLcL g tt te own n ds s h2
/-- [elt for .. if ..] -/
def mLc (own : List Nat) (g : MG) (tt : ME Bool) (te : ME D) (mi : ME (List D)) : ME D := fun s fl h => (mi s fl h).bind fun ds h1 => match mLcL g tt te own h1.length ds s (h1 ++ [.lst []]) with
  | .ok _ hh => match frz 64 h1.length hh (.ref h1.length) with
    | some d => .ok d (hh.take h1.length)
    | none => .err
  | _ => .err
abbrev W0 : WX := fun _ _ _ _ => False
theorem lw_upper {n : Nat} {h : Hs} {o : Ob} : Lw n h (h.set n o) := lw_set fun hi => absurd hi (Nat.lt_irrefl _)
theorem gd_lcL {g : MG} {tt : ME Bool} {te : ME D} {own : List Nat} {n : Nat} (hg : ∀ d s fl h s' h', g d s fl h = some (s', h') → h' = h) (x : Gd tt) (y : Gd te) : ∀ (ds : List D) (s : SS) (hh hh' : Hs), n ≤ hh.length → mLcL g tt te own n ds s hh = .ok () hh' → Lw n hh hh'
  | [], s, hh, hh', _, e => by cases e; exact Lw.refl
  | d :: ds, s, hh, hh', hn, e => by
    unfold mLcL at e
    cases o : g d (wipeS s own) n hh with
    | none => rw [o] at e; cases e
    | some p =>
      obtain ⟨s1, h1⟩ := p
      rw [o] at e
      have e1 := hg _ _ _ _ _ _ o
      subst e1
      simp only at e
      have q := x s1 n h1 hn
      cases o2 : tt s1 n h1 with
      | ok b h2 =>
        rw [o2] at e q
        have q : Lw n h1 h2 := q
        simp only [R.bindN_ok] at e
        cases b with
        | false => exact q.trans (gd_lcL hg x y ds s h2 hh' (Nat.le_trans hn q.le) e)
        | true =>
          simp only [if_true] at e
          have q2 := y s1 n h2 (Nat.le_trans hn q.le)
          cases o3 : te s1 n h2 with
          | ok v h3 =>
            rw [o3] at e q2
            have q2 : Lw n h2 h3 := q2
            simp only [R.bindN_ok] at e
            split at e
            · split at e
              · have q3 := gd_lcL hg x y ds s _ hh' (by simp; exact Nat.le_trans (Nat.le_trans hn q.le) q2.le) e
                exact q.trans (q2.trans (lw_upper.trans q3))
              · cases e
            · cases e
          | exc _ _ => rw [o3] at e; cases e
          | err => rw [o3] at e; cases e
      | exc _ _ => rw [o2] at e; cases e
      | err => rw [o2] at e; cases e
theorem gd_lc {g : MG} {tt : ME Bool} {te : ME D} {own : List Nat} {mi : ME (List D)} (hg : ∀ d s fl h s' h', g d s fl h = some (s', h') → h' = h) (x : Gd tt) (y : Gd te) (z : Gd mi) : Gd (mLc own g tt te mi) := gd_bind z fun ds => fun s fl h hf => by
  cases o : mLcL g tt te own h.length ds s (h ++ [.lst []]) with
  | ok u hh =>
    simp only
    have q := gd_lcL hg x y ds s _ hh (by simp) o
    cases frz 64 h.length hh (.ref h.length) with
    | none => trivial
    | some d => exact Lw.take hf ((Lw.push (Nat.le_refl _) _).trans q)
  | exc _ _ => trivial
  | err => trivial
theorem tm_lc {g : MG} {tt : ME Bool} {te : ME D} {own : List Nat} {mi : ME (List D)} (hgs : ∀ d s fl h s' h', g d s fl h = some (s', h') → h' = h) (gx : Gd tt) (gy : Gd te) {σ : St} {H : Hp} {Q : VK} (q : TM C W (mLc own g tt te mi) σ H Q) : tLc (TIm C W mi) (TGc C g own) (TB C W0 tt) (TM C W0 te) own σ H Q := by
  obtain ⟨rho, F, s, fl, h, hs, hg, ok⟩ := q
  refine ⟨rho, F, s, fl, h, hs, hg, ok.bind.imp fun ds h1 rho1 F1 H1 e1 g1 ok1 J yd D hD => ?_⟩
  have ex0 : Ext C.K rho1 F1 H1 (rho1 ++ [D]) F1 (upd H1 D (.lst [])) := Ext.at (fun _ q => q) (fun a f => let ⟨_, z⟩ := g1.ft a f; ne_of_none z hD) (fun a xs z => ne_of_none z hD) (fun a o u z => ne_of_none z hD)
  obtain ⟨g2, e2⟩ := g1.push (o := .lst []) (u := .lst []) hD ⟨[], upd_same, .nil⟩
  cases o : mLcL g tt te own h1.length ds s (h1 ++ [.lst []]) with
  | exc _ _ => rw [o] at ok1; exact ok1.elim
  | err => rw [o] at ok1; exact ok1.elim
  | ok u hF =>
    rw [o] at ok1
    simp only at ok1
    refine ⟨fun i m H => m = ds.length - i ∧ i ≤ ds.length ∧ ∃ r F hh, Ext C.K (rho1 ++ [D]) F1 (upd H1 D (.lst [])) (rho1 ++ [D] ++ r) F H ∧ GR C (rho1 ++ [D] ++ r) F hh H ∧ h1.length < hh.length ∧ Lw h1.length (h1 ++ [.lst []]) hh ∧ mLcL g tt te own h1.length (ds.drop i) s hh = .ok u hF,
      ⟨ds.length, by simp, Nat.zero_le _, [], F1, _, by rw [List.append_nil]; exact Ext.refl, by rw [List.append_nil]; exact g2, by simp, Lw.refl, o⟩, ?_⟩
    rintro i m H3 ⟨rfl, hi, r, F3, hh, e3, g3, hl, lw, om⟩
    have e13 := e2.trans e3
    obtain ⟨go, stop, yld⟩ := yd _ F3 hh H3 e13 g3
    have atD : (rho1 ++ [D] ++ r)[h1.length]? = some D := by
      rw [List.append_assoc, List.getElem?_append_right (by rw [g1.len]; exact Nat.le_refl _), g1.len]
      simp
    by_cases hlt : i < ds.length
    · refine .inr ⟨go i hlt, fun H' => ∃ r F hh, Ext C.K (rho1 ++ [D]) F1 (upd H1 D (.lst [])) (rho1 ++ [D] ++ r) F H' ∧ GR C (rho1 ++ [D] ++ r) F hh H' ∧ h1.length < hh.length ∧ Lw h1.length (h1 ++ [.lst []]) hh ∧ mLcL g tt te own h1.length (ds.drop (i + 1)) s hh = .ok u hF, fun H' q => ⟨ds.length - (i + 1), by omega, rfl, hlt, q⟩, fun v H4 yy => ?_⟩
      obtain ⟨F4, e4, g4, r4⟩ := yld i ds[i] v H4 (by simp [hlt]) yy
      rw [List.drop_eq_getElem_cons hlt] at om
      unfold mLcL at om
      cases og : g ds[i] (wipeS s own) h1.length hh with
      | none => rw [og] at om; cases om
      | some p =>
        obtain ⟨s5, h5⟩ := p
        rw [og] at om
        have eh := hgs _ _ _ _ _ _ og
        subst eh
        simp only at om
        have hs4 : SR C.K (rho1 ++ [D] ++ r) F4 H4 σ s := ((hs.ext e1).ext e13).ext e4
        refine ⟨_, F4, wipeS s own, h1.length, h5, ds[i], sr_wipe hs4 own, g4, r4, s5, og, fun σ5 q5 w5 => ⟨by rw [w5]; exact wipe_wipe own fun _ q => q, ?_⟩⟩
        cases o2 : tt s5 h1.length h5 with
        | exc _ _ => rw [o2] at om; cases om
        | err => rw [o2] at om; cases om
        | ok b h6 =>
          rw [o2] at om
          simp only [R.bindN_ok] at om
          have l6 : Lw h1.length h5 h6 := by have z := gx s5 h1.length h5 (Nat.le_of_lt hl); rw [o2] at z; exact z
          refine ⟨_, F4, s5, h1.length, h5, q5, g4, ?_⟩
          rw [o2]
          intro rho6 F6 H6 e6 g6
          obtain ⟨r6, er6⟩ := e6.pre
          subst er6
          have e36 := e3.trans (e4.trans e6)
          cases b with
          | false =>
            simp only [Bool.false_eq_true, if_false] at om ⊢
            rw [List.append_assoc] at e36 g6
            exact ⟨r ++ r6, F6, h6, e36, g6, Nat.lt_of_lt_of_le hl l6.le, lw.trans l6, om⟩
          | true =>
            simp only [if_true] at om ⊢
            cases o3 : te s5 h1.length h6 with
            | exc _ _ => rw [o3] at om; cases om
            | err => rw [o3] at om; cases om
            | ok y h7 =>
              rw [o3] at om
              simp only [R.bindN_ok] at om
              have l7 : Lw h1.length h6 h7 := by have z := gy s5 h1.length h6 (Nat.le_trans (Nat.le_of_lt hl) l6.le); rw [o3] at z; exact z
              refine ⟨_, F6, s5, h1.length, h6, q5.ext e6, g6, ?_⟩
              rw [o3]
              intro rho7 F7 H7 e7 g7 yv ry
              obtain ⟨r7, er7⟩ := e7.pre
              subst er7
              have e37 := e36.trans e7
              cases o8 : h7[h1.length]? with
              | none => rw [o8] at om; cases om
              | some ob =>
                rw [o8] at om
                cases ob with
                | lst acc =>
                  simp only at om
                  split at om
                  · rename_i hz
                    have atD7 : (rho1 ++ [D] ++ r ++ r6 ++ r7)[h1.length]? = some D := by
                      have l1 : h1.length < (rho1 ++ [D] ++ r).length := (List.getElem?_eq_some_iff.mp atD).1
                      rw [List.getElem?_append_left (by rw [List.length_append]; omega), List.getElem?_append_left l1]
                      exact atD
                    obtain ⟨vacc, p1, p2⟩ := g7.ob _ _ _ o8 atD7
                    obtain ⟨g8, e8⟩ := g7.setL atD7 p1 (p2.append (.cons ry .nil))
                    have e38 := e37.trans e8
                    rw [List.append_assoc, List.append_assoc] at e38 g8
                    refine ⟨vacc, p1, by rw [sizeLine_is, p2.length]; exact hz, r ++ (r6 ++ r7), F7, _, e38, g8, by simp; exact Nat.lt_of_lt_of_le (Nat.lt_of_lt_of_le hl l6.le) l7.le, lw.trans (l6.trans (l7.trans lw_upper)), om⟩
                  · cases om
                | _ => cases om
    · have ei : i = ds.length := by omega
      subst ei
      refine .inl ⟨stop, ?_⟩
      rw [List.drop_length] at om
      have om : R.ok () hh = R.ok u hF := om
      have eF : hh = hF := by injection om
      subst eF
      cases of_ : frz 64 h1.length hh (.ref h1.length) with
      | none => rw [of_] at ok1; exact ok1.elim
      | some d =>
        rw [of_] at ok1
        obtain ⟨p, pe⟩ := e13.pre
        have gl : GR C (rho1 ++ p) F3 hh H3 := by rw [← pe]; exact g3
        have e23 : Ext C.K rho1 F1 H1 rho1 (addFs F3 p) H3 := ⟨⟨[], by simp⟩, fun a q => .inl (e13.fr a q), e13.tp, e13.ls, e13.fz, e13.dk, e13.dt⟩
        have low3 : Low rho1.length hh := by rw [g1.len]; exact (Lw.trans (Lw.push (Nat.le_refl _) _) lw).low _ (Nat.le_refl _) g1.lowAll
        have g5 := gl.drop low3
        have rD : RD C.K (rho1 ++ p) F3 H3 (.ref D) (.ref h1.length) := .ref (by rw [← pe]; exact atD)
        have rf := frz_rd gl 64 rD (by rw [g1.len]; exact of_)
        rw [g1.len] at g5
        exact ok1 rho1 (addFs F3 p) H3 e23 g5 _ rf
variable {elt tg iter : Expr} {ifs : List Expr} {scope : Scope} {own : List (Str × Nat)} {mi : ME (List D)} {g : MG} {tt : ME Bool} {te : ME D}
theorem me_lc (hc : X.calm = true) (hN : X.N.Nodup) (x : PMI X C W tg iter mi) (ok : BlkOk X.N X.env.scope scope own)
    (hg : ∀ (s : Shared) (H : Hp) (A : Addr) (cl : List (Str × Addr)) (fp : List Addr), PMC (X.blk s H scope (compEnvC scope cl A X.env) fp) C tg g (own.map (·.2)))
    (ht : ∀ (s : Shared) (H : Hp) (A : Addr) (cl : List (Str × Addr)) (fp : List Addr), PMT (X.blk s H scope (compEnvC scope cl A X.env) fp) C W0 ifs tt)
    (he : ∀ (s : Shared) (H : Hp) (A : Addr) (cl : List (Str × Addr)) (fp : List Addr), PM (X.blk s H scope (compEnvC scope cl A X.env) fp) C W0 elt te) (hs : ∀ x, foldedSetIterable iter X.env x = pure x := by intro _; rfl) :
    PM X C W (.ListComp elt [⟨tg, iter, ifs, 0⟩] scope pos) (mLc (own.map (·.2)) g tt te mi) := by
  have gs := (hg X.s_0 X.H_0 0 [] []).same
  have gx := (ht X.s_0 X.H_0 0 [] []).gd
  have gy := (he X.s_0 X.H_0 0 [] []).gd
  exact ⟨pe_imp (pe_lc hc hN x.pi ok (fun s H A cl fp => (hg s H A cl fp).pg) (fun s H A cl fp => (ht s H A cl fp).pt) (fun s H A cl fp => (he s H A cl fp).pe) hs) fun σ H Q q => tm_lc gs gx gy q, gd_lc gs gx gy x.gd⟩
/-- y = [..] -/
theorem ms_setLc (i : Nat) {y : Str} {py spos : Pos} (hc : X.calm = true) (hN : X.N.Nodup) (x : PMI X C W tg iter mi) (ok : BlkOk X.N X.env.scope scope own)
    (hg : ∀ (s : Shared) (H : Hp) (A : Addr) (cl : List (Str × Addr)) (fp : List Addr), PMC (X.blk s H scope (compEnvC scope cl A X.env) fp) C tg g (own.map (·.2)))
    (ht : ∀ (s : Shared) (H : Hp) (A : Addr) (cl : List (Str × Addr)) (fp : List Addr), PMT (X.blk s H scope (compEnvC scope cl A X.env) fp) C W0 ifs tt)
    (he : ∀ (s : Shared) (H : Hp) (A : Addr) (cl : List (Str × Addr)) (fp : List Addr), PM (X.blk s H scope (compEnvC scope cl A X.env) fp) C W0 elt te)
    (hsw : swapsWith (.ListComp elt [⟨tg, iter, ifs, 0⟩] scope pos) (some (.Name y py)) spos.line X.env = pure true) (hy : X.N[i]? = some y := by rfl) (hyl : X.env.scope.names.lookup y = some .local := by rfl) (hs : ∀ x, foldedSetIterable iter X.env x = pure x := by intro _; rfl) :
    PMS X C W (.Assign [.Name y py] (.ListComp elt [⟨tg, iter, ifs, 0⟩] scope pos) spos) (mAsg (mLc (own.map (·.2)) g tt te mi) (gN i)) := by
  have gs := (hg X.s_0 X.H_0 0 [] []).same
  have gx := (ht X.s_0 X.H_0 0 [] []).gd
  have gy := (he X.s_0 X.H_0 0 [] []).gd
  refine ⟨ps_imp (ps_setLc hc hN hy hyl hsw x.pi ok (fun s H A cl fp => (hg s H A cl fp).pg) (fun s H A cl fp => (ht s H A cl fp).pt) (fun s H A cl fp => (he s H A cl fp).pe) hs) fun DD σ H ⟨rho, F, s, fl, h, hs, hgr, ok⟩ => ?_, gd_asg (gd_lc gs gx gy x.gd) (mg_name (X := X) (C := C) (pos := py) i hN hy (.inl hyl) (.inr hyl)).gd⟩
  refine tm_lc gs gx gy (Q := fun v H1 => gName i v σ H1 DD.nx) ⟨rho, F, s, fl, h, hs, hgr, (ok.bindS hs).imp fun d h1 rho1 F1 H1 e1 g1 ok1 v r1 => ?_⟩
  exact ok1 _ _ _ _ Ext.refl g1 ((hs.ext e1).set i r1)
theorem pyIterT_dummy : True := trivial
end
end NC

namespace NC
open PySem PySem.Spec L2
open PyProof.Rows hiding St
theorem ite_both {c : Prop} [Decidable c] {α : Type} {x y z : α} (h1 : x = z) (h2 : y = z) : (if c then x else y) = z := by split <;> assumption
theorem enum_eq (v : Value) : Builtin.«enumerate.__new__» { pos := [Value.type "enumerate", v] } =
   (do let _ ← stack; let it ← pyIter v; let r ← newObj (.type "enumerate") (Data.fields #[.none, .bool false, it, rawInt 0, .none, .none]); ret r) := by
  unfold Builtin.«enumerate.__new__»
  have e1 : Builtin.SmallTypes.newClass "enumerate" { pos := [Value.type "enumerate", v] } = pure (Value.type "enumerate", [v]) := rfl
  rw [e1]
  unfold Builtin.SmallTypes.calledThroughType
  show Sem.stack _ = Sem.stack _
  congr
  funext fr
  exact ite_both rfl rfl
theorem meets_enum1 {v : Value} {o : Obj} {HH : Heap → Prop} (B : Begins v o HH) : Meets (Builtin.«enumerate.__new__» { pos := [Value.type "enumerate", v] }) fun x R s => HH s.heap ∧
    R (.ok (.ret (.ref (s.heap.push o).objs.size))) { heap := (s.heap.push o).push { cls := .type "enumerate", data := .fields #[.none, .bool false, .ref s.heap.objs.size, rawInt 0, .none, .none] }, gens := s.gens, drawn := s.drawn, toks := s.toks, os := s.os } := by
  intro prog w A R s ⟨h1, h2⟩
  rw [enum_eq]
  refine wpAny_bind (wpAny_stack fun fr _ _ _ => ?_)
  refine wpAny_bind (B.iter prog w _ _ s _ h1 ?_)
  refine wpAny_bind (wpAny_newObj_type ?_)
  exact wpAny_pure h2
theorem typeIs_push {h : Heap} {g d tk os} {T : String} {od : Option Addr} {vs : Array Value} : (Shared.mk (h.push { cls := .type T, dict := od, data := .fields vs }) g d tk os).TypeIs (.ref h.objs.size) T :=
  ⟨{ cls := .type T, dict := od, data := .fields vs }, by heap_get, rfl⟩
theorem call_enum1 {prog : Program} {w : World} {A : Around} {E : Value → Shared → Prop} {s : Shared} {v : Value} {o : Obj} {HH : Heap → Prop} {Q : Value → Shared → Prop} (B : Begins v o HH) (h0 : HH s.heap)
    (k : Q (.ref (s.heap.objs.size + 1)) { heap := (s.heap.push o).push { cls := .type "enumerate", data := .fields #[.none, .bool false, .ref s.heap.objs.size, rawInt 0, .none, .none] }, gens := s.gens, drawn := s.drawn, toks := s.toks, os := s.os }) :
    wpAny (model prog w) A (call (.type "enumerate") [v]) Q E s := by
  refine callType_new F.called_enumerate (by decide) (F.typeCall_enumerate_1 v) (F.newCall_enumerate_1 v) (fun obj => F.args_object_init_2 obj v) F.entry_enumerate_new (meets_enum1 B) ⟨h0, ?_⟩
  show _ ∧ _
  refine ⟨?_, ?_⟩
  · exact typeIs_push
  · rw [Heap.size_push]; exact k

/-- enumerate over a tuple -/
def IteT (a : Addr) : It :=
  { go := fun i H => ∃ xs x, H a = some (.tup xs) ∧ xs[i]? = some x,
    yld := fun i H v H' => ∃ T x, v = .ref T ∧ H T = none ∧ H' = upd H T (.tup [.int i, x]) ∧ ∀ xs, H a = some (.tup xs) → xs[i]? = some x,
    stop := fun i H => ∃ xs, H a = some (.tup xs) ∧ xs.length = i }
theorem turn_enumT {P : Program} {w : World} {K : PySem.W.Frag} {elts : List Expr} {kk : Nat} {tpos : Pos} (a e it : Addr) : Turn P w K (.Tuple elts kk tpos) (IteT a) [e, it] e fun i h => (∃ old, IsEnum h e it i old) ∧ h.IsTupleIter it a i ∧ e ≠ it where
  mem := by simp
  obj := by
    rintro i h ⟨⟨old, he⟩, ⟨o, h1, h2, h3⟩, hne⟩ b hb
    rcases List.mem_cons.mp hb with e1 | e1
    · subst e1
      exact ⟨_, he, fun v z => by cases z⟩
    · simp at e1
      subst e1
      exact ⟨o, h1, fun v z => by rw [h3] at z; cases z⟩
  keep := by
    rintro i h h' ⟨⟨old, he⟩, ⟨o, h1, h2, h3⟩, hne⟩ k
    exact ⟨⟨old, k e (by simp) _ he⟩, ⟨o, k it (by simp) _ h1, h2, h3⟩, hne⟩
  item := by
    rintro X hP hw hK hc i pins s σ H E I hf ⟨⟨old, he⟩, hi, hne⟩ ⟨xs, x, ha, hx⟩
    subst hP hw
    have ob : ObjOk X.prog X.w H s.heap a (.tup xs) := I.hok a _ ha
    unfold ObjOk at ob
    obtain ⟨hl, its, rv, ht⟩ := ob
    have hlt : i < its.toArray.size := by
      have := Paired.length rv
      have h2 := (List.getElem?_eq_some_iff.mp hx).1
      simp
      omega
    have ne0 : ∀ b, b ∈ [e, it] → a ≠ b := fun b hb z => by
      have q := (hf b hb).1
      rw [← z, ha] at q
      cases q
    have sz : ∀ b, b ∈ [e, it] → b < s.heap.objs.size := fun b hb => by
      rcases List.mem_cons.mp hb with e1 | e1
      · subst e1; exact Heap.lt_size he
      · simp at e1
        subst e1
        obtain ⟨o, h1, h2⟩ := hi
        exact Heap.lt_size h1
    refine wpAny_pyNext_enum_itemC (c := (i : Int)) (Draws.tuple (A := X.A.in1) (I.ok.hd hc) it a (ne0 it (by simp)) its.toArray) he ⟨hi, ht⟩ hlt hne (by simp; exact ⟨hne, (ne0 e (by simp)).symm⟩) fun u h' tk pu hout hst hT hsz hk => ?_
    refine ⟨_, rfl, wpAny_letOwnedTupleGo_enum hout fun h2 he2 hsb => ?_⟩
    obtain ⟨u2, p1, p2⟩ := paired_get rv hx
    have eu : u2 = u := by
      have pu : its.toArray[i]? = some u := pu
      simp at pu
      rw [p1] at pu
      exact Option.some.inj pu
    subst eu
    have Tne : ∀ b, b ∈ [e, it] → s.heap.objs.size ≠ b := fun b hb => Nat.ne_of_gt (sz b hb)
    have hT2 : h2.get? s.heap.objs.size = some { cls := Value.type "tuple", data := Data.seq #[Value.int i tk, u2] } := by rw [hsb.2 _ (Tne e (by simp))]; exact hT
    have fr : H s.heap.objs.size = none := I.hok.fresh (Nat.le_refl _)
    have J : L2.Inv X pins σ (upd H s.heap.objs.size (.tup [.int i, x])) ⟨h2, s.gens, s.drawn, tk + 1, s.os⟩ := by
      refine I.turnedNew (ch := [e, it]) (fun b o hb q => ?_) hf (Nat.le_refl _) ?_
      · simp at hb
        rw [hsb.2 b hb.1]
        exact hk b o hb.1 hb.2 q
      · unfold ObjOk
        exact ⟨by rw [sizeLine_is]; simp, [.int i tk, u2], .cons ⟨tk, rfl⟩ (.cons p2 .nil), ⟨_, hT2, rfl, _, rfl⟩⟩
    refine ⟨.ref s.heap.objs.size, _, J, rfl, ⟨_, x, rfl, fr, rfl, fun ys hy => ?_⟩, ⟨⟨_, by simpa using he2⟩, ?_, hne⟩, fun b hb => ?_⟩
    · rw [ha] at hy
      cases hy
      exact hx
    · obtain ⟨⟨o, q1, q2, q3⟩, _⟩ := hst
      exact ⟨o, by rw [hsb.2 it (Ne.symm hne)]; exact q1, q2, q3⟩
    · rw [upd_ne (Tne b hb).symm]
      exact (hf b hb).1
  done := by
    rintro X hP hw hK hc i pins s σ H E I hf ⟨⟨old, he⟩, hi, hne⟩ ⟨xs, ha, hx⟩
    subst hP hw
    have ob : ObjOk X.prog X.w H s.heap a (.tup xs) := I.hok a _ ha
    unfold ObjOk at ob
    obtain ⟨hl, its, rv, ht⟩ := ob
    have ez : its.toArray.size = i := by
      have := Paired.length rv
      simp
      omega
    have ne0 : ∀ b, b ∈ [e, it] → a ≠ b := fun b hb z => by
      have q := (hf b hb).1
      rw [← z, ha] at q
      cases q
    refine wpAny_pyNext_enum_endD (Draws.tuple (A := X.A.in1) (I.ok.hd hc) it a (ne0 it (by simp)) its.toArray) he ⟨by rw [ez]; exact hi, ht⟩ fun h' hx' => ⟨rfl, ?_⟩
    exact I.turnedL (ch := [it]) (fun b o hb q => hx' b o (by simpa using hb) q) fun b hb => hf b (by simp at hb; simp [hb])
  self := by
    rintro A i s Q E ⟨⟨old, he⟩, hi, hne⟩ q
    exact wpAny_pyIter_enum he q
def iEnumT (ta : TA) : TI := fun σ H R => ta σ H fun vs H1 => ∃ a xs, vs = [.ref a] ∧ H1 a = some (.tup xs) ∧ R (IteT a) H1
theorem pi_enumT {X : Cx} {e : Expr} {ta : TA} {p pos tpos : Pos} {elts : List Expr} {kk : Nat} (hg : Gl X "enumerate") (hm : X.mg "enumerate" = none) (y : PA X [e] ta) (hs : starEach [e] X.env = [(false, eval e X.env)] := by rfl) :
    PI X (.Tuple elts kk tpos) (.Call (.Name "enumerate" p) [e] [] pos) (iEnumT ta) := by
  refine ⟨fun pins s σ H R I q => ?_⟩
  refine wpAny_Call_Name_kw (ld_blt I hg hm (by decide +kernel : bootBuiltins "enumerate" = some (.type "enumerate")) ?_)
  refine callWith_type1 (thn (y.run pos pins s σ H _ I q) fun us s1 ⟨vs, H1, I1, r, a, xs, ev, ha, k⟩ => ?_) hs (by rfl)
  subst ev
  cases r with
  | cons r1 r2 =>
    cases r2
    obtain rfl := r1
    have ob : ObjOk X.prog X.w H1 s1.heap a (.tup xs) := I1.hok a _ ha
    unfold ObjOk at ob
    obtain ⟨hl, its, rv, ht⟩ := ob
    refine call_enum1 (begins_tuple a its.toArray) ht ?_
    have he : IsEnum ((s1.heap.push { cls := Value.type "tuple_iterator", data := Data.fields #[Value.ref a, Value.int 0 0] }).push { cls := Value.type "enumerate", data := Data.fields #[Value.none, Value.bool false, Value.ref s1.heap.objs.size, rawInt 0, Value.none, Value.none] }) (s1.heap.objs.size + 1) s1.heap.objs.size 0 .none := by heap_get
    refine wpAny_pyIter_enum (it := s1.heap.objs.size) (i := 0) (old := .none) he ?_
    have k1 : ∀ (b : Addr) (o : Obj), s1.heap.get? b = some o → ((s1.heap.push { cls := Value.type "tuple_iterator", data := Data.fields #[Value.ref a, Value.int 0 0] }).push { cls := Value.type "enumerate", data := Data.fields #[Value.none, Value.bool false, Value.ref s1.heap.objs.size, rawInt 0, Value.none, Value.none] }).get? b = some o := fun b o e => Heap.get?_push_of_some _ (Heap.get?_push_of_some _ e)
    refine ⟨_, [s1.heap.objs.size + 1, s1.heap.objs.size], _, IteT a, H1, rfl, ?_, turn_enumT a (s1.heap.objs.size + 1) s1.heap.objs.size, ⟨⟨.none, he⟩, ⟨_, by heap_get, rfl, rfl⟩, Nat.succ_ne_self _⟩, fun b hb => ?_, k⟩
    · exact I1.turnedL (ch := []) (t' := s1.toks) (fun b o _ e => k1 b o e) fun b hb => by simp at hb
    · have hb2 : s1.heap.objs.size ≤ b := by
        rcases List.mem_cons.mp hb with e1 | e1
        · subst e1; exact Nat.le_succ _
        · simp at e1; subst e1; exact Nat.le_refl _
      exact I1.fpOk hb2 (I1.hok.fresh hb2)

def enumL (ds : List D) : List D := (ds.zipIdx).map fun p => .tup [.int p.2, p.1]
def itE (h : Hs) : List D → Option (List D)
  | [d] => match d with
    | .tup xs => some (enumL xs)
    | _ => none
  | _ => none
def mEnT (m : ME (List D)) : ME (List D) := fun s fl h => (m s fl h).bind fun ds h1 => ofL (itE h1 ds) h1
theorem enumL_get {ds : List D} {i : Nat} {d : D} (h : (enumL ds)[i]? = some d) : ∃ x, ds[i]? = some x ∧ d = .tup [.int i, x] := by
  unfold enumL at h
  rw [List.getElem?_map, List.getElem?_zipIdx] at h
  cases o : ds[i]? with
  | none => simp [o] at h
  | some x => simp [o] at h; exact ⟨x, rfl, h.symm⟩
section
variable {X : Cx} {C : Cn} {W : WX} {e : Expr} {ma : ME (List D)} {me : ME D} {p pos tpos : Pos} {elts : List Expr} {kk : Nat} {tg : Expr}
theorem mi_enumT (hm : X.mg "enumerate" = none) (y : PMA X C W [e] ma) (hg : Gl X "enumerate" := by rfl) (hs : starEach [e] X.env = [(false, eval e X.env)] := by rfl) :
    PMI X C W (.Tuple elts kk tpos) (.Call (.Name "enumerate" p) [e] [] pos) (mEnT ma) := by
  refine ⟨pi_imp (pi_enumT hg hm y.pa hs) fun σ H R ⟨rho, F, s, fl, h, hs, hgr, ok⟩ => ⟨rho, F, s, fl, h, hs, hgr, ok.bind.imp fun ds h1 rho1 F1 H1 e1 g1 ok1 vs r1 => ?_⟩, gd_bind y.gd fun d => fun s fl h hf => gd_ofL _⟩
  cases o : itE h1 ds with
  | none => rw [o] at ok1; exact ok1.elim
  | some es =>
    rw [o] at ok1
    have k := ok1 _ _ _ Ext.refl g1
    unfold itE at o
    split at o
    · split at o
      · rename_i xs
        cases o
        cases r1 with
        | cons r1 r2 =>
          cases r2
          cases r1 with
          | @tup a vs _ q r =>
            refine ⟨a, vs, rfl, q, k _ ?_⟩
            intro rho' F' h' H' e' g'
            have q' := e'.tp _ _ q
            have r' := RDs.ext e' r
            have el : (enumL xs).length = xs.length := by simp [enumL]
            refine ⟨fun i hi => ?_, ⟨_, q', by rw [r.length, el]⟩, fun i d x H2 hd yy => ?_⟩
            · rw [el] at hi
              obtain ⟨v, h1, h2⟩ := r'.get (i := i) (d := xs[i]) (by simp [hi])
              exact ⟨_, v, q', h1⟩
            · obtain ⟨T, v, e1, nT, eH, hv⟩ := yy
              obtain ⟨y, hy, ed⟩ := enumL_get hd
              subst e1 eH ed
              obtain ⟨v2, p1, p2⟩ := r'.get hy
              have p3 := hv _ q'
              rw [p1] at p3
              cases p3
              exact ⟨F', Ext.newT nT g'.ft, g'.newT nT, RD.newT nT g'.ft (.cons (.int _) (.cons p2 .nil))⟩
      · cases o
    · cases o
/-- for c in s -/
def itS : D → Option (List D)
  | .str l => some (l.map fun c => .str [c])
  | _ => none
def mItS (m : ME D) : ME (List D) := fun s fl h => (m s fl h).bind fun d h1 => ofL (itS d) h1
theorem mi_str (x : PM X C W e me) : PMI X C W tg e (mItS me) := by
  refine ⟨pi_imp (pi_str x.pe) fun σ H R ⟨rho, F, s, fl, h, hs, hg, ok⟩ => ⟨rho, F, s, fl, h, hs, hg, ok.bind.imp fun d h1 rho1 F1 H1 e1 g1 ok1 v r1 => ?_⟩, gd_bind x.gd fun d => fun s fl h hf => gd_ofL _⟩
  cases o : itS d with
  | none => rw [o] at ok1; exact ok1.elim
  | some ds =>
    rw [o] at ok1
    have k := ok1 _ _ _ Ext.refl g1
    cases r1 with
    | str l ok => 
      cases o
      refine ⟨_, rfl, k _ ?_⟩
      intro rho' F' h' H' e' g'
      refine ⟨fun i hi => by simpa [Its] using hi, by simp [Its], fun i d x H2 hd yy => ?_⟩
      obtain ⟨e1, c, hc, ev⟩ := yy
      subst e1 ev
      have hc' : l[i]? = some c := by simpa using hc
      simp [hc'] at hd
      subst hd
      exact ⟨F', Ext.refl, g', .str [c] (ok.mem (List.mem_of_getElem? hc'))⟩
    | _ => cases o
end
end NC

namespace NC
open PySem PySem.Spec L2
open PyProof.Rows hiding St
def intsO : List D → Option (List Int)
  | [] => some []
  | .int i :: r => (intsO r).map (i :: ·)
  | _ => none
def blsO : List D → Option (List Bool)
  | [] => some []
  | .bl i :: r => (blsO r).map (i :: ·)
  | _ => none
theorem intsO_rd {K : PySem.W.Frag} {rho : List Addr} {F : Addr → Prop} {H : Hp} : ∀ {vs : List V} {ds : List D} {ns : List Int}, RDs K rho F H vs ds → intsO ds = some ns → vs = ns.map V.int
  | _, _, _, .nil, e => by cases e; rfl
  | _, _, _, .cons a r, e => by
    cases a with
    | int i =>
      unfold intsO at e
      simp only [Option.map_eq_some_iff] at e
      obtain ⟨x, e1, e2⟩ := e
      subst e2
      simp [intsO_rd r e1]
    | _ => simp [intsO] at e
theorem blsO_rd {K : PySem.W.Frag} {rho : List Addr} {F : Addr → Prop} {H : Hp} : ∀ {vs : List V} {ds : List D} {ns : List Bool}, RDs K rho F H vs ds → blsO ds = some ns → vs = ns.map V.bl
  | _, _, _, .nil, e => by cases e; rfl
  | _, _, _, .cons a r, e => by
    cases a with
    | bl i =>
      unfold blsO at e
      simp only [Option.map_eq_some_iff] at e
      obtain ⟨x, e1, e2⟩ := e
      subst e2
      simp [blsO_rd r e1]
    | _ => simp [blsO] at e
def vwL (h : Hs) (d : D) : Option (List D) := match vw h d with
  | .lst xs => some xs
  | _ => none
def sumF : VL := fun h ds => match ds with
  | [d] => ((vwL h d).bind intsO).map fun ns => .int ns.sum
  | _ => none
def allF : VL := fun h ds => match ds with
  | [d] => ((vwL h d).bind blsO).map fun ns => .bl (ns.all id)
  | _ => none
def anyF : VL := fun h ds => match ds with
  | [d] => ((vwL h d).bind blsO).map fun ns => .bl (ns.any id)
  | _ => none
theorem vwL_at {C : Cn} {rho : List Addr} {F : Addr → Prop} {h : Hs} {H : Hp} (g : GR C rho F h H) {v : V} {d : D} {xs : List D} (r : RD C.K rho F H v d) (e : vwL h d = some xs) : ∃ a vs, v = .ref a ∧ H a = some (.lst vs) ∧ RDs C.K rho F H vs xs := by
  unfold vwL at e
  split at e
  · rename_i ys z
    cases e
    exact vw_lst g r z
  · cases e
section
variable {X : Cx} {C : Cn}
theorem cr_sumF (hc : X.calm = true) : CallR X (.builtin "sum") (RLf C sumF) := by
  intro pins s σ H xs us Q I r q
  obtain ⟨rho, F, h, ds, d, g, rr, e, k⟩ := q
  unfold sumF at e
  split at e
  · rename_i d1
    simp only [Option.map_eq_some_iff, Option.bind_eq_some_iff] at e
    obtain ⟨ns, ⟨ys, e1, e2⟩, e3⟩ := e
    subst e3
    cases rr with
    | cons r1 r2 =>
      cases r2
      obtain ⟨a, vs, q1, q2, q3⟩ := vwL_at g r1 e1
      rw [intsO_rd q3 e2] at q2
      exact cr_sum hc pins s σ H _ us Q I r ⟨a, ns, by rw [q1], SqL.of q2, k.here g (.int _)⟩
  · cases e
theorem cr_allF (hc : X.calm = true) : CallR X (.builtin "all") (RLf C allF) := by
  intro pins s σ H xs us Q I r q
  obtain ⟨rho, F, h, ds, d, g, rr, e, k⟩ := q
  unfold allF at e
  split at e
  · rename_i d1
    simp only [Option.map_eq_some_iff, Option.bind_eq_some_iff] at e
    obtain ⟨ns, ⟨ys, e1, e2⟩, e3⟩ := e
    subst e3
    cases rr with
    | cons r1 r2 =>
      cases r2
      obtain ⟨a, vs, q1, q2, q3⟩ := vwL_at g r1 e1
      rw [blsO_rd q3 e2] at q2
      exact cr_all hc pins s σ H _ us Q I r ⟨a, ns, by rw [q1], SqL.of q2, k.here g (.bl _)⟩
  · cases e
theorem cr_anyF (hc : X.calm = true) : CallR X (.builtin "any") (RLf C anyF) := by
  intro pins s σ H xs us Q I r q
  obtain ⟨rho, F, h, ds, d, g, rr, e, k⟩ := q
  unfold anyF at e
  split at e
  · rename_i d1
    simp only [Option.map_eq_some_iff, Option.bind_eq_some_iff] at e
    obtain ⟨ns, ⟨ys, e1, e2⟩, e3⟩ := e
    subst e3
    cases rr with
    | cons r1 r2 =>
      cases r2
      obtain ⟨a, vs, q1, q2, q3⟩ := vwL_at g r1 e1
      rw [blsO_rd q3 e2] at q2
      exact cr_any hc pins s σ H _ us Q I r ⟨a, ns, by rw [q1], SqL.of q2, k.here g (.bl _)⟩
  · cases e
def inM : V2 := fun h a b => match a, vw h b with
  | .str [c], .str z => some (.bl (decide (c ∈ z)))
  | a, .lst xs => if shal 59 (vw h a) && shalL 59 xs then some (.bl (xs.any fun z => eqD z (vw h a))) else none
  | _, _ => none
def notInM : V2 := fun h a b => match a, vw h b with
  | .str [c], .str z => some (.bl (!decide (c ∈ z)))
  | a, .lst xs => if shal 59 (vw h a) && shalL 59 xs then some (.bl (!xs.any fun z => eqD z (vw h a))) else none
  | _, _ => none
theorem any_eqv (n m : Nat) (a : D) (ha : shal m a = true) : ∀ xs : List D, shalL n xs = true → ((toPs xs).any fun z => PyData.eqv z (toP a)) = xs.any fun z => eqD z a
  | [], _ => rfl
  | x :: xs, h => by
    simp only [shalL, Bool.and_eq_true] at h
    simp only [toPs, List.any_cons]
    rw [eqv_toP n m x a h.1 ha, any_eqv n m a ha xs h.2]
theorem shal_mono60 : ∀ (n : Nat), (∀ a : D, shal n a = true → shal (n + 1) a = true) ∧ (∀ a : List D, shalL n a = true → shalL (n + 1) a = true)
  | 0 => by
    have A : ∀ a : D, shal 0 a = true → shal 1 a = true := fun a h => by cases a <;> simp [shal] at h ⊢
    refine ⟨A, fun a h => ?_⟩
    induction a with
    | nil => rfl
    | cons x xs ih =>
      simp only [shalL, Bool.and_eq_true] at h ⊢
      exact ⟨A x h.1, ih h.2⟩
  | n + 1 => by
    obtain ⟨A, B⟩ := shal_mono60 n
    have A' : ∀ a : D, shal (n + 1) a = true → shal (n + 1 + 1) a = true := fun a h => by
      cases a <;> simp only [shal] at h ⊢ <;> first | exact B _ h | (exact absurd h (by simp))
    refine ⟨A', fun a h => ?_⟩
    induction a with
    | nil => rfl
    | cons x xs ih =>
      simp only [shalL, Bool.and_eq_true] at h ⊢
      exact ⟨A' x h.1, ih h.2⟩
theorem inD_at (hK : X.K = C.K) {rho : List Addr} {F : Addr → Prop} {h : Hs} {H : Hp} (g : GR C rho F h H) {x y : V} {a b : D} {xs : List D} (ra : RD C.K rho F H x a) (rb : RD C.K rho F H y b) (eb : vw h b = .lst xs) (z1 : shal 59 (vw h a) = true) (z2 : shalL 59 xs = true) :
    Dp X.K H x (toP (vw h a)) ∧ Dp X.K H y (.list (toPs xs)) ∧ SeqAt.shaped (toP (vw h a)) = true ∧ SeqAt.shaped (.list (toPs xs)) = true := by
  obtain ⟨d1, c1⟩ := vw_dp g ra ((shal_mono60 59).1 _ z1)
  obtain ⟨d2, c2⟩ := vw_dp g rb (by rw [eb]; exact z2)
  rw [eb] at d2 c2
  rw [hK]
  exact ⟨d1, d2, c1, c2⟩
theorem op_inM (hK : X.K = C.K) (hu : X.A.units + 64 + 1 < cLine) : OpR X (compareOp .In) (RV2 C inM) := by
  intro pins s σ H x y v u Q I rx ry q
  obtain ⟨rho, F, h, a, b, d, g, ra, rb, e, k⟩ := q
  unfold inM at e
  split at e
  · rename_i c z e1
    cases e
    cases ra
    obtain ⟨q1, ok⟩ := vw_str rb e1
    exact op_in_sign pins s σ H _ _ v u Q I rx ry ⟨c, _, rfl, q1, k.here g (.bl _)⟩
  · rename_i a1 xs e1
    split at e
    · rename_i z
      cases e
      simp only [Bool.and_eq_true] at z
      obtain ⟨d1, d2, c1, c2⟩ := inD_at hK g ra rb e1 z.1 z.2
      refine op_inD hu pins s σ H _ _ v u Q I rx ry ⟨_, _, d1, d2, c1, c2, ?_⟩
      rw [any_eqv 59 59 _ z.1 xs z.2]
      exact k.here g (.bl _)
    · cases e
  · cases e
theorem op_notInM (hK : X.K = C.K) (hu : X.A.units + 64 + 1 < cLine) : OpR X (compareOp .NotIn) (RV2 C notInM) := by
  intro pins s σ H x y v u Q I rx ry q
  obtain ⟨rho, F, h, a, b, d, g, ra, rb, e, k⟩ := q
  unfold notInM at e
  split at e
  · rename_i c z e1
    cases e
    cases ra
    obtain ⟨q1, ok⟩ := vw_str rb e1
    exact op_notIn_sign pins s σ H _ _ v u Q I rx ry ⟨c, _, rfl, q1, k.here g (.bl _)⟩
  · rename_i a1 xs e1
    split at e
    · rename_i z
      cases e
      simp only [Bool.and_eq_true] at z
      obtain ⟨d1, d2, c1, c2⟩ := inD_at hK g ra rb e1 z.1 z.2
      refine op_notInD hu pins s σ H _ _ v u Q I rx ry ⟨_, _, d1, d2, c1, c2, ?_⟩
      rw [any_eqv 59 59 _ z.1 xs z.2]
      exact k.here g (.bl _)
    · cases e
  · cases e
def mulM : V2 := fun h a b => match vw h a, b with
  | .int i, .int j => if i.natAbs < 18446744073709551616 ∨ j.natAbs < 18446744073709551616 then some (.int (i * j)) else none
  | .lst x, .int k => if x.length * k.toNat ≤ 16777216 ∧ inI k = true then some (.lst (List.replicate k.toNat x).flatten) else none
  | _, _ => none
theorem RDs.rep {K : PySem.W.Frag} {rho : List Addr} {F : Addr → Prop} {H : Hp} {vs : List V} {ds : List D} (r : RDs K rho F H vs ds) : ∀ n : Nat, RDs K rho F H (List.replicate n vs).flatten (List.replicate n ds).flatten
  | 0 => .nil
  | n + 1 => by simp only [List.replicate_succ, List.flatten_cons]; exact r.append (RDs.rep r n)
theorem op_mulM : OpR X (binaryOp .Mult) (RV2 C mulM) := by
  intro pins s σ H x y v u Q I rx ry q
  obtain ⟨rho, F, h, a, b, d, g, ra, rb, e, k⟩ := q
  unfold mulM at e
  split at e
  · rename_i i j e1
    split at e
    · rename_i z
      cases e
      cases rb
      have q1 := vw_int ra e1
      refine op_mul pins s σ H _ _ v u Q I rx ry ⟨i, j, q1, rfl, ?_, k.here g (.int _)⟩
      unfold CMul
      omega
    · cases e
  · rename_i xs j e1
    split at e
    · rename_i z
      cases e
      cases rb
      obtain ⟨p, vs, q1, q2, q3⟩ := vw_lst g ra e1
      have zz := inI_iff.mp z.2
      exact op_rep pins s σ H _ _ v u Q I rx ry ⟨p, j, vs, q1, rfl, q2, by omega, by omega, by rw [sizeLine_is, q3.length]; exact z.1, k.newL g (q3.rep _)⟩
    · cases e
  · cases e
end
def lSet (fl : Nat) (h : Hs) (o i v : D) : Option Hs := match i with
  | .int k => (lsAt h o).bind fun p => (ixN p.2.length k).bind fun j => if wrOk fl p.1 v then some (h.set p.1 (.lst (p.2.set j v))) else none
  | _ => none
def gIx (mo mi : ME D) : MG := fun d s fl h => match mo s fl h with
  | .ok o h1 => match mi s fl h1 with
    | .ok i h2 => (lSet fl h2 o i d).map fun h3 => (s, h3)
    | _ => none
  | _ => none
theorem lsAt_is {h : Hs} {o : D} {j : Nat} {xs : List D} (e : lsAt h o = some (j, xs)) : h[j]? = some (.lst xs) := by
  unfold lsAt at e
  split at e
  · split at e
    · cases e; assumption
    · cases e
  · cases e
theorem gd_lSet {fl : Nat} {h h2 : Hs} {o i v : D} (q : lSet fl h o i v = some h2) : Lw fl h h2 := by
  unfold lSet at q
  split at q
  · simp only [Option.bind_eq_some_iff] at q
    obtain ⟨⟨j, xs⟩, e1, n, e2, q⟩ := q
    split at q
    · rename_i w
      cases q
      refine lw_setL (lsAt_is e1) fun hi m hm al y hy => ?_
      rcases List.mem_or_eq_of_mem_set hy with z | z
      · exact al y z
      · subst z; exact wr_low w hi
    · cases q
  · cases q
section
variable {X : Cx} {C : Cn} {W : WX} {o i a b c d e : Expr} {mo mi ma mb mc md : ME D} {pos : Pos}
theorem mg_ix (x : PM X C W0 o mo) (y : PM X C W0 i mi) (hs : ∀ (v : Value), assign (o.Subscript i pos) X.env v = (do
      let ov ← holding [v] (eval o X.env)
      let iv ← holding [v, ov] (eval i X.env)
      standAt pos
      holding [v, ov, iv] (setItem ov iv v)
      release [v, ov, iv] []) := by intro _; rfl) : PMG X C (.Subscript o i pos) (gIx mo mi) := by
  refine ⟨pg_imp (pg_sub x.pe y.pe set_list hs) fun v σ H Q ⟨rho, F, s, fl, h, d, hs, hg, r, s', h', e, k⟩ => ?_, fun d s fl h s' h' hf e => ?_⟩
  · unfold gIx at e
    cases o1 : mo s fl h with
    | exc _ _ => rw [o1] at e; cases e
    | err => rw [o1] at e; cases e
    | ok od h1 =>
      rw [o1] at e
      simp only at e
      refine ⟨rho, F, s, fl, h, hs, hg, ?_⟩
      rw [o1]
      intro rho1 F1 H1 e1 g1 vo ro
      cases o2 : mi s fl h1 with
      | exc _ _ => rw [o2] at e; cases e
      | err => rw [o2] at e; cases e
      | ok id h2 =>
        rw [o2] at e
        simp only [Option.map_eq_some_iff] at e
        obtain ⟨h3, e3, e4⟩ := e
        cases e4
        refine ⟨rho1, F1, s, fl, h1, hs.ext e1, g1, ?_⟩
        rw [o2]
        intro rho2 F2 H2 e2 g2 vi ri
        unfold lSet at e3
        split at e3
        · rename_i kk
          simp only [Option.bind_eq_some_iff] at e3
          obtain ⟨⟨j, xs⟩, p1, n, p2, e3⟩ := e3
          split at e3
          · rename_i w
            cases e3
            cases ri
            obtain ⟨ad, vs, q1, q2, q3, q4, q5⟩ := lsAt_at g2 (RD.ext e2 ro) p1
            obtain ⟨g4, e4⟩ := g2.setL q2 q4 (q5.set (RD.ext (e1.trans e2) r) n)
            refine ⟨ad, vs, kk, n, q1, rfl, q4, by rw [q5.length]; exact p2, ?_⟩
            exact k σ _ _ _ ((e1.trans e2).trans e4) g4 (hs.ext ((e1.trans e2).trans e4))
          · cases e3
        · cases e3
  · unfold gIx at e
    have q1 := x.gd s fl h hf
    cases o1 : mo s fl h with
    | exc _ _ => rw [o1] at e; cases e
    | err => rw [o1] at e; cases e
    | ok od h1 =>
      rw [o1] at e q1
      have q1 : Lw fl h h1 := q1
      have q2 := y.gd s fl h1 (Nat.le_trans hf q1.le)
      simp only at e
      cases o2 : mi s fl h1 with
      | exc _ _ => rw [o2] at e; cases e
      | err => rw [o2] at e; cases e
      | ok id h2 =>
        rw [o2] at e q2
        have q2 : Lw fl h1 h2 := q2
        simp only [Option.map_eq_some_iff] at e
        obtain ⟨h3, e3, e4⟩ := e
        cases e4
        exact q1.trans (q2.trans (gd_lSet e3))
def mPar3 (i j k : Nat) (m : ME (List D)) : MS := fun s fl h => (m s fl h).bindS s fun ds h1 => match ds with
  | [x, y, z] => .nx (((s.set i (some x)).set j (some y)).set k (some z)) h1
  | _ => .err
theorem ms_par3 (i j l : Nat) {x y z : Str} {mr : ME (List D)} {px py pz pt : Pos} {kt k2 pt2} (w : PMA X C W [a, b, c] mr) (hc : X.calm = true) (hN : X.N.Nodup) (hi : X.N[i]? = some x := by rfl) (hj : X.N[j]? = some y := by rfl) (hl : X.N[l]? = some z := by rfl) (hij : i ≠ j := by decide) (hil : i ≠ l := by decide) (hjl : j ≠ l := by decide)
    (hx : X.env.scope.names.lookup x = some .local := by rfl) (hy : X.env.scope.names.lookup y = some .local := by rfl) (hz : X.env.scope.names.lookup z = some .local := by rfl)
    (hw : swappedStores [.Tuple [.Name x px, .Name y py, .Name z pz] kt pt] (.Tuple [a, b, c] k2 pt2) X.env = pure (some [x, y, z]) := by rfl)
    (hs : swapsWithSole [.Tuple [.Name x px, .Name y py, .Name z pz] kt pt] (.Tuple [a, b, c] k2 pt2) pos.line X.env = pure false := by rfl) :
    PMS X C W (.Assign [.Tuple [.Name x px, .Name y py, .Name z pz] kt pt] (.Tuple [a, b, c] k2 pt2) pos) (mPar3 i j l mr) := by
  refine ⟨ps_imp (ps_par3 hc hN hi hj hl hij hil hjl hx hy hz w.pa hw hs) fun D σ H ⟨rho, F, s, fl, h, hs, hg, ok⟩ => ⟨rho, F, s, fl, h, hs, hg, (ok.bindS hs).imp fun ds h1 rho1 F1 H1 e1 g1 ok1 vs r1 => ?_⟩, fun s fl h hf => (w.gd s fl h hf).bindS fun ds h1 le => ?_⟩
  · cases r1 with
    | nil => exact ok1.elim
    | cons a r1 =>
      cases r1 with
      | nil => exact ok1.elim
      | cons b r1 =>
        cases r1 with
        | nil => exact ok1.elim
        | cons c r1 =>
          cases r1 with
          | nil => exact ⟨_, _, _, rfl, ok1 _ rho1 F1 H1 Ext.refl g1 ((((hs.ext e1).set i a).set j b).set l c)⟩
          | cons d r1 => exact ok1.elim
  · split
    · exact Lw.refl
    · trivial
def mChain3 (f f' f2 : V2) (ma mb mc md : ME D) : ME Bool := fun s fl h => (ma s fl h).bind fun x h1 => (mb s fl h1).bind fun y h2 => match (f h2 x y).bind blD with
  | some true => (mc s fl h2).bind fun z h3 => match (f' h3 y z).bind blD with
    | some true => (md s fl h3).bind fun w h4 => ofB ((f2 h4 z w).bind blD) h4
    | some false => .ok false h3
    | none => .err
  | some false => .ok false h2
  | none => .err
def tChain3 (r r' r2 : R2) (ta tb tc td : TE) : TT := fun σ H Q => ta σ H fun x H1 => tb σ H1 fun y H2 => r x y H2 fun z H3 => ∃ k, z = .bl k ∧ if k = true then tc σ H3 fun w H4 => r' y w H4 fun z2 H5 => ∃ k2, z2 = .bl k2 ∧ (if k2 = true then td σ H5 fun u H6 => r2 w u H6 fun z3 H7 => ∃ k3, z3 = .bl k3 ∧ Q k3 H7 else Q false H5) else Q false H3
theorem pt_chain3 {op op' op2 : CmpOp} {r r' r2 : R2} {ta tb tc td : TE} (ho : OpR X (compareOp op) r) (ho' : OpR X (compareOp op') r') (ho2 : OpR X (compareOp op2) r2) (x : PE X a ta) (y : PE X b tb) (z : PE X c tc) (u : PE X d td) (hm : lastMarks [op, op', op2] [b, c, d] = false := by with_unfolding_all rfl) :
    PT X (.Compare a [op, op', op2] [b, c, d] pos) (tChain3 r r' r2 ta tb tc td) := by
  refine ⟨fun pins s σ H Q I q => ?_⟩
  refine isTrue_chain (thn (x.run pins s σ H _ I q) fun va s1 ⟨v, H1, I1, rv, q1⟩ => ?_) hm
  refine test_link (thn (y.run pins s1 σ H1 _ I1 q1) fun vb s2 ⟨v2, H2, I2, rv2, q2⟩ => ?_)
  refine thn (ho pins s2 σ H2 v v2 va vb _ I2 rv rv2 q2) fun vz s3 ⟨v3, H3, I3, rv3, k, ek, q3⟩ => ?_
  subst ek
  obtain rfl : vz = .bool k := rv3
  refine wpAny_truthy_bool ?_
  cases k with
  | false => exact ⟨H3, I3, q3⟩
  | true =>
    refine test_link (thn (z.run pins s3 σ H3 _ I3 q3) fun vc s4 ⟨v4, H4, I4, rv4, q4⟩ => ?_)
    refine thn (ho' pins s4 σ H4 v2 v4 vb vc _ I4 rv2 rv4 q4) fun vz2 s5 ⟨v5, H5, I5, rv5, k2, ek2, q5⟩ => ?_
    subst ek2
    obtain rfl : vz2 = .bool k2 := rv5
    refine wpAny_truthy_bool ?_
    cases k2 with
    | false => exact ⟨H5, I5, q5⟩
    | true =>
      refine test_last (thn (u.run pins s5 σ H5 _ I5 q5) fun vd s6 ⟨v6, H6, I6, rv6, q6⟩ => ?_)
      refine thn (ho2 pins s6 σ H6 v4 v6 vc vd _ I6 rv4 rv6 q6) fun vz3 s7 ⟨v7, H7, I7, rv7, k3, ek3, q7⟩ => ?_
      subst ek3
      obtain rfl : vz3 = .bool k3 := rv7
      exact wpAny_truthy_bool ⟨H7, I7, q7⟩
theorem mb_chain3 {op op' op2 : CmpOp} {f f' f2 : V2} (ho : OpR X (compareOp op) (RV2 C f)) (ho' : OpR X (compareOp op') (RV2 C f')) (ho2 : OpR X (compareOp op2) (RV2 C f2)) (x : PM X C W a ma) (y : PM X C W b mb) (z : PM X C W c mc) (u : PM X C W d md) (hm : lastMarks [op, op', op2] [b, c, d] = false := by with_unfolding_all rfl) :
    PMB X C W (.Compare a [op, op', op2] [b, c, d] pos) (mChain3 f f' f2 ma mb mc md) := by
  refine ⟨pt_imp (pt_chain3 ho ho' ho2 x.pe y.pe z.pe u.pe hm) fun σ H Q ⟨rho, F, s, fl, h, hs, hg, ok⟩ => ?_, gd_bind x.gd fun da => gd_bind y.gd fun db => fun s fl h hf => ?_⟩
  · refine ⟨rho, F, s, fl, h, hs, hg, ok.bind.imp fun da h1 rho1 F1 H1 e1 g1 ok1 v r1 => ?_⟩
    refine ⟨rho1, F1, s, fl, h1, hs.ext e1, g1, ok1.bind.imp fun db h2 rho2 F2 H2 e2 g2 ok2 v2 r2 => ?_⟩
    cases o : f h2 da db with
    | none => rw [o] at ok2; exact ok2.elim
    | some d1 =>
      rw [o] at ok2
      refine ⟨rho2, F2, h2, da, db, d1, g2, RD.ext e2 r1, r2, o, fun w F3 H3 e3 g3 r3 => ?_⟩
      cases o2 : blD d1 with
      | none => simp only [Option.bind_some, o2] at ok2; exact ok2.elim
      | some k =>
        simp only [Option.bind_some, o2] at ok2
        refine ⟨k, blD_rd r3 o2, ?_⟩
        cases k with
        | false => exact ok2 rho2 F3 H3 e3 g3
        | true =>
          refine ⟨rho2, F3, s, fl, h2, (hs.ext (e1.trans (e2.trans e3))), g3, (OkX.ext e3 ok2.bind).imp fun dc h4 rho4 F4 H4 e4 g4 ok4 v4 r4 => ?_⟩
          cases o5 : f' h4 db dc with
          | none => rw [o5] at ok4; exact ok4.elim
          | some d5 =>
            rw [o5] at ok4
            refine ⟨rho4, F4, h4, db, dc, d5, g4, RD.ext (e3.trans e4) r2, r4, o5, fun w F6 H6 e6 g6 r6 => ?_⟩
            cases o6 : blD d5 with
            | none => simp only [Option.bind_some, o6] at ok4; exact ok4.elim
            | some k2 =>
              simp only [Option.bind_some, o6] at ok4
              refine ⟨k2, blD_rd r6 o6, ?_⟩
              cases k2 with
              | false => exact ok4 rho4 F6 H6 e6 g6
              | true =>
                refine ⟨rho4, F6, s, fl, h4, (hs.ext (e1.trans (e2.trans (e3.trans (e4.trans e6))))), g6, (OkX.ext e6 ok4.bind).imp fun dd h7 rho7 F7 H7 e7 g7 ok7 v7 r7 => ?_⟩
                cases o8 : f2 h7 dc dd with
                | none => rw [o8] at ok7; exact ok7.elim
                | some d8 =>
                  rw [o8] at ok7
                  refine ⟨rho7, F7, h7, dc, dd, d8, g7, RD.ext (e6.trans e7) r4, r7, o8, fun w F9 H9 e9 g9 r9 => ?_⟩
                  cases o9 : blD d8 with
                  | none => simp only [Option.bind_some, o9] at ok7; exact ok7.elim
                  | some k3 =>
                    simp only [Option.bind_some, o9] at ok7
                    exact ⟨k3, blD_rd r9 o9, ok7 rho7 F9 H9 e9 g9⟩
  · cases (f h da db).bind blD with
    | none => trivial
    | some k =>
      cases k with
      | false => exact Lw.refl
      | true =>
        refine (z.gd s fl h hf).bind fun dc h3 le => ?_
        cases (f' h3 db dc).bind blD with
        | none => trivial
        | some k2 =>
          cases k2 with
          | false => exact Lw.refl
          | true => exact (u.gd s fl h3 (Nat.le_trans hf le)).bind fun dd h4 le4 => gd_ofB _
end
end NC

namespace NC
open PySem PySem.Spec L2
open PyProof.Rows hiding St
/-- a def's body, its names apart -/
structure Bn (X : Cx) (C : Cn) (W : WX) (k : Nat) : Prop extends Bd X C W k where
  nd : X.N.Nodup
theorem Bd.bn {X : Cx} {C : Cn} {W : WX} {k : Nat} (B : Bd X C W k) (nd : X.N.Nodup) : Bn X C W k := ⟨B, nd⟩
theorem Bd.hu65 {X : Cx} {C : Cn} {W : WX} {k : Nat} (B : Bd X C W k) : X.A.units + 64 + 1 < cLine := by have := B.hr.un; omega
/-- .. in a comprehension -/
theorem Bn.blk {X : Cx} {C : Cn} {W : WX} {k : Nat} (B : Bn X C W k) (s : Shared) (H : Hp) (scope : Scope) (cenv : Env) (fp : List Addr) : Bn (X.blk s H scope cenv fp) C W0 k :=
  ⟨⟨B.hK, B.hc, B.hr, PassesOwn.never, takes0⟩, B.nd⟩
section
variable {X : Cx} {C : Cn} {W : WX} {a : Expr} {ma : ME D} {pos : Pos} {x : Str}
theorem me_gint {i : Int} (h : ∃ t, X.mg x = some (.int i t)) (hg : Gl X x := by rfl) (hdb : (x == ("__debug__" : Str)) = false := by decide) : PM X C W (.Name x pos) (mC (.int i)) := by
  obtain ⟨t, h⟩ := h
  exact me_c (pe_glob (v := .int i) hg h ⟨t, rfl⟩ hdb) fun _ _ _ => .int i
theorem me_gstr {z : Str} (l : List Nat) (h : ∃ t, X.mg x = some (.str z t)) (hz : z = ⟨l.toArray⟩ := by decide +kernel) (ok : l.length ≤ 16777216 ∧ ∀ c ∈ l, c < 0x110000 := by decide) (hg : Gl X x := by rfl) (hdb : (x == ("__debug__" : Str)) = false := by decide) : PM X C W (.Name x pos) (mC (.str l)) := by
  obtain ⟨t, h⟩ := h
  subst hz
  exact me_c (pe_glob (v := .str ⟨l.toArray⟩) hg h ⟨t, rfl⟩ hdb) fun _ _ _ => .str l ok
def mNeg (m : ME D) : ME D := fun s fl h => (m s fl h).bind fun d h1 => match d with
  | .int i => .ok (.int (-i)) h1
  | _ => .err
theorem me_neg (y : PM X C W a ma) : PM X C W (.UnaryOp .USub a pos) (mNeg ma) := by
  refine ⟨pe_imp (pe_un un_neg y.pe) fun σ H Q ⟨rho, F, s, fl, h, hs, hg, ok⟩ => ⟨rho, F, s, fl, h, hs, hg, ok.bind.imp fun d h1 rho1 F1 H1 e1 g1 ok1 v r1 => ?_⟩, gd_bind y.gd fun d => fun s fl h hf => ?_⟩
  · cases r1 with
    | int i => exact ⟨i, rfl, ok1 _ _ _ Ext.refl g1 _ (.int _)⟩
    | _ => exact ok1.elim
  · cases d <;> first | exact Lw.refl | trivial
/-- x += of numbers, texts -/
def iaddD : V2 := fun h a b => match a, b with
  | .int i, .int j => some (.int (i + j))
  | .str x, .str y => if x.length + y.length ≤ 16777216 then some (.str (x ++ y)) else none
  | _, _ => none
theorem ip_addD : OpR X (inplaceOp .Add) (RV2 C iaddD) := by
  intro pins s σ H x y v u Q I rx ry q
  obtain ⟨rho, F, h, a, b, d, g, ra, rb, e, k⟩ := q
  unfold iaddD at e
  split at e
  · rename_i i j
    cases e
    cases ra
    cases rb
    exact iop_add pins s σ H _ _ v u Q I rx ry ⟨i, j, rfl, rfl, k.here g (.int _)⟩
  · rename_i i j
    split at e
    · rename_i hl
      cases e
      cases ra with
      | str _ o1 =>
        cases rb with
        | str _ o2 =>
          refine iop_add_str pins s σ H _ _ v u Q I rx ry ⟨_, _, rfl, rfl, ?_, ?_⟩
          · rw [sizeLine_is]; exact hl
          · have z : ((⟨i.toArray⟩ : Str) ++ (⟨j.toArray⟩ : Str)) = ⟨(i ++ j).toArray⟩ := by
              show Str.append _ _ = _
              simp [Str.append]
            rw [z]
            exact k.here g (.str _ (o1.append o2 hl))
    · cases e
  · cases e
theorem ip_subD : OpR X (inplaceOp .Sub) (RV2 C subD) := opI2 fun pins s σ H x y v u Q I rx ry i j d ex ey e k => by
  cases e
  exact iop_sub pins s σ H x y v u Q I rx ry ⟨i, j, ex, ey, k _ fun _ _ => .int _⟩
end
section
variable {X : Cx} {C : Cn} {W : WX} {k : Nat} {elt tg iter : Expr} {ifs : List Expr} {scope : Scope} {own : List (Str × Nat)} {mi : ME (List D)} {g : MG} {tt : ME Bool} {te : ME D} {pos : Pos}
abbrev ForBlk (X : Cx) (C : Cn) (k : Nat) (scope : Scope) (p : Cx → Prop) : Prop := ∀ (s : Shared) (H : Hp) (A : Addr) (cl : List (Str × Addr)) (fp : List Addr), Bn (X.blk s H scope (compEnvC scope cl A X.env) fp) C W0 k → p (X.blk s H scope (compEnvC scope cl A X.env) fp)
theorem me_lcB (B : Bn X C W k) (x : PMI X C W tg iter mi) (ok : BlkOk X.N X.env.scope scope own)
    (hg : ForBlk X C k scope fun X => PMC X C tg g (own.map (·.2))) (ht : ForBlk X C k scope fun X => PMT X C W0 ifs tt) (he : ForBlk X C k scope fun X => PM X C W0 elt te) (hs : ∀ x, foldedSetIterable iter X.env x = pure x := by intro _; rfl) :
    PM X C W (.ListComp elt [⟨tg, iter, ifs, 0⟩] scope pos) (mLc (own.map (·.2)) g tt te mi) :=
  me_lc B.hc B.nd x ok (fun s H A cl fp => hg s H A cl fp (B.blk s H scope _ fp)) (fun s H A cl fp => ht s H A cl fp (B.blk s H scope _ fp)) (fun s H A cl fp => he s H A cl fp (B.blk s H scope _ fp)) hs
theorem ms_setLcB (B : Bn X C W k) (i : Nat) {y : Str} {py spos : Pos} (x : PMI X C W tg iter mi) (ok : BlkOk X.N X.env.scope scope own)
    (hg : ForBlk X C k scope fun X => PMC X C tg g (own.map (·.2))) (ht : ForBlk X C k scope fun X => PMT X C W0 ifs tt) (he : ForBlk X C k scope fun X => PM X C W0 elt te)
    (hsw : swapsWith (.ListComp elt [⟨tg, iter, ifs, 0⟩] scope pos) (some (.Name y py)) spos.line X.env = pure true := by rfl) (hy : X.N[i]? = some y := by rfl) (hyl : X.env.scope.names.lookup y = some .local := by rfl) (hs : ∀ x, foldedSetIterable iter X.env x = pure x := by intro _; rfl) :
    PMS X C W (.Assign [.Name y py] (.ListComp elt [⟨tg, iter, ifs, 0⟩] scope pos) spos) (mAsg (mLc (own.map (·.2)) g tt te mi) (gN i)) :=
  ms_setLc i B.hc B.nd x ok (fun s H A cl fp => hg s H A cl fp (B.blk s H scope _ fp)) (fun s H A cl fp => ht s H A cl fp (B.blk s H scope _ fp)) (fun s H A cl fp => he s H A cl fp (B.blk s H scope _ fp)) hsw hy hyl hs
end
theorem Vals.take {vs : List V} {us : List Value} (r : Vals vs us) : ∀ n, Vals (vs.take n) (us.take n) := by
  induction r with
  | nil => intro n; simp; exact .nil
  | cons a b ih =>
    intro n
    cases n with
    | zero => exact .nil
    | succ n => exact .cons a (ih n)
theorem Vals.drop {vs : List V} {us : List Value} (r : Vals vs us) : ∀ n, Vals (vs.drop n) (us.drop n) := by
  induction r with
  | nil => intro n; simp; exact .nil
  | cons a b ih =>
    intro n
    cases n with
    | zero => exact .cons a b
    | succ n => exact ih n
theorem Vals.app {vs ws : List V} {us zs : List Value} (r : Vals vs us) (q : Vals ws zs) : Vals (vs ++ ws) (us ++ zs) := by
  induction r with
  | nil => exact q
  | cons a b ih => exact .cons a ih
/-- the law's promise, from its meaning -/
theorem sp_law {C : Cn} {f : MF} {H : Hp} {a : Addr} {ns : List Int} (hS : SqL C.K H a (ns.map V.int)) (hf : ∃ h', f [.scr ns] 0 [] = .ok (.bl true) h') : spM C 1 f [.ref a] H (fun v _ => v = .bl true) fun _ _ _ => False := by
  obtain ⟨h', e⟩ := hf
  have go : ∀ F : Addr → Prop, (∀ b, F b → ∃ o, H b = some o) → SqF C.K F H a (ns.map V.int) → spM C 1 f [.ref a] H (fun v _ => v = .bl true) fun _ _ _ => False := fun F ft sq => by
    refine ⟨rfl, [], F, 0, [], [.scr ns], ⟨rfl, List.nodup_nil, fun b hb => by simp at hb, ft, fun i o b h1 => by simp at h1⟩, .cons (.scr sq) .nil, ?_⟩
    rw [e]
    intro rho' F' H' e' g' v r
    cases r
    rfl
  rcases hS with (h | ⟨o, h⟩) | h
  · exact go (fun b => b = a) (fun b hb => ⟨_, hb ▸ h⟩) (.inl ⟨rfl, h⟩)
  · exact go (fun _ => False) (fun b hb => hb.elim) (.inr (.inl ⟨o, h⟩))
  · exact go (fun _ => False) (fun b hb => hb.elim) (.inr (.inr h))
end NC

namespace NC
open PySem PySem.Spec L2
open PyProof.Rows hiding St
theorem sr_forget {K : PySem.W.Frag} {rho : List Addr} {F : Addr → Prop} {H : Hp} {σ : St} {s : SS} (r : SR K rho F H σ s) : ∀ vs : List Nat, SR K rho F H σ (wipeS s vs)
  | [] => r
  | v :: vs => by
    have ih := sr_forget r vs
    refine ⟨by simp [wipeS, ih.1], fun i d h => ?_⟩
    unfold wipeS at h
    by_cases e : v = i
    · subst e
      rw [List.getElem?_set] at h
      simp at h
    · rw [List.getElem?_set_ne e] at h
      exact ih.2 i d h
def mWipe (vs : List Nat) (m : MS) : MS := fun s fl h => match m s fl h with
  | .nx s' h' => .nx (wipeS s' vs) h'
  | .ct s' h' => .ct (wipeS s' vs) h'
  | r => r
theorem gd_wipe {vs : List Nat} {m : MS} (x : GdM m) : GdM (mWipe vs m) := fun s fl h hf => by
  have q := x s fl h hf
  unfold mWipe
  cases o : m s fl h <;> rw [o] at q <;> exact q
theorem tq_wipe {C : Cn} {W : WX} {vs : List Nat} {m : MS} {D : Ends} {σ : St} {H : Hp} (q : TQ C W (mWipe vs m) D σ H) : TQ C W m D σ H := by
  obtain ⟨rho, F, s, fl, h, hs, hg, ok⟩ := q
  refine ⟨rho, F, s, fl, h, hs, hg, ?_⟩
  unfold mWipe at ok
  cases o : m s fl h with
  | nx s' h' => rw [o] at ok; exact fun σ' rho' F' H' e g r => ok σ' rho' F' H' e g (sr_forget r vs)
  | ct s' h' => rw [o] at ok; exact fun σ' rho' F' H' e g r => ok σ' rho' F' H' e g (sr_forget r vs)
  | bk s' h' => rw [o] at ok; exact ok
  | rt d h' => rw [o] at ok; exact ok
  | exc e s' h' => rw [o] at ok; exact ok
  | err => rw [o] at ok; exact ok
section
variable {X : Cx} {C : Cn} {W : WX} {st : Stmt} {sts : List Stmt} {m : MS}
theorem ms_wipe (vs : List Nat) (x : PMS X C W st m) : PMS X C W st (mWipe vs m) := ⟨ps_imp x.ps fun _ _ _ q => tq_wipe q, gd_wipe x.gd⟩
theorem ml_wipe (vs : List Nat) (x : PML X C W sts m) : PML X C W sts (mWipe vs m) := ⟨pss_imp x.ps fun _ _ _ q => tq_wipe q, gd_wipe x.gd⟩
end
end NC

namespace NC
open PySem PySem.Spec L2
open PyProof.Rows hiding St
section
variable {α β : Type} {s : SS} {fl : Nat} {h : Hs} {f f' f2 : V2} {ma mb mc md me : ME D} {ta tb : ME Bool} {ml mk : ME (List D)} {m n : MS} {g : MG} {d d1 d2 a b c : D} {i j k : Nat} {e : Ex} {ds es : List D}
@[simp] theorem x_C : mC d s fl h = .ok d h := rfl
@[simp] theorem x_V : mV i s fl h = ofO (slot s i) h := rfl
@[simp] theorem slot_0 {x : Option D} {r : SS} : slot (x :: r) 0 = x := rfl
@[simp] theorem slot_s {x : Option D} {r : SS} {n : Nat} : slot (x :: r) (n + 1) = slot r n := rfl
def kB1 (f : V2) (mb : ME D) (s : SS) (fl : Nat) (r : R D) : R D := r.bind fun a h1 => (mb s fl h1).bind fun b h2 => ofO (f h2 a b) h2
def kB2 (f : V2) (a : D) (r : R D) : R D := r.bind fun b h2 => ofO (f h2 a b) h2
@[simp] theorem x_Bin : mBin f ma mb s fl h = kB1 f mb s fl (ma s fl h) := rfl
@[simp] theorem kB1_ok : kB1 f mb s fl (.ok a h) = kB2 f a (mb s fl h) := rfl
@[simp] theorem kB1_exc : kB1 f mb s fl (.exc e h) = .exc e h := rfl
@[simp] theorem kB2_ok : kB2 f a (.ok b h) = ofO (f h a b) h := rfl
@[simp] theorem kB2_exc : kB2 f a (.exc e h) = .exc e h := rfl
@[simp] theorem blD_bl {b : Bool} : blD (.bl b) = some b := rfl
def kT (r : R D) : R Bool := r.bind fun d h1 => ofB (truD h1 d) h1
@[simp] theorem x_T : mT ma s fl h = kT (ma s fl h) := rfl
@[simp] theorem kT_ok : kT (.ok d h) = ofB (truD h d) h := rfl
@[simp] theorem truD_bl {b : Bool} : truD h (.bl b) = some b := rfl
@[simp] theorem truD_int {i : Int} : truD h (.int i) = some (i != 0) := rfl
@[simp] theorem truD_str {l : List Nat} : truD h (.str l) = some (!l.isEmpty) := rfl
@[simp] theorem truD_tup {l : List D} : truD h (.tup l) = some (!l.isEmpty) := rfl
@[simp] theorem truD_lst {l : List D} : truD h (.lst l) = some (!l.isEmpty) := rfl
@[simp] theorem truD_non : truD h .non = some false := rfl
def kTb (r : R D) : R Bool := r.bind fun d h1 => ofB (blD d) h1
@[simp] theorem x_Tb : mTb ma s fl h = kTb (ma s fl h) := rfl
@[simp] theorem kTb_ok {k : Bool} : kTb (.ok (.bl k) h) = .ok k h := rfl
@[simp] theorem kTb_exc : kTb (.exc e h) = .exc e h := rfl
def kAnd (tb : ME Bool) (s : SS) (fl : Nat) (r : R Bool) : R Bool := r.bind fun k h1 => if k then tb s fl h1 else .ok false h1
def kOr (tb : ME Bool) (s : SS) (fl : Nat) (r : R Bool) : R Bool := r.bind fun k h1 => if k then .ok true h1 else tb s fl h1
def kNot (r : R Bool) : R Bool := r.bind fun k h1 => .ok (!k) h1
@[simp] theorem x_And : mAnd ta tb s fl h = kAnd tb s fl (ta s fl h) := rfl
@[simp] theorem kAnd_t : kAnd tb s fl (.ok true h) = tb s fl h := rfl
@[simp] theorem kAnd_f : kAnd tb s fl (.ok false h) = .ok false h := rfl
@[simp] theorem x_Or : mOr ta tb s fl h = kOr tb s fl (ta s fl h) := rfl
@[simp] theorem kOr_t : kOr tb s fl (.ok true h) = .ok true h := rfl
@[simp] theorem kOr_f : kOr tb s fl (.ok false h) = tb s fl h := rfl
@[simp] theorem x_Not : mNot ta s fl h = kNot (ta s fl h) := rfl
@[simp] theorem kNot_ok {k : Bool} : kNot (.ok k h) = .ok (!k) h := rfl
def kAndV (mb : ME D) (s : SS) (fl : Nat) (r : R D) : R D := r.bind fun d h1 => match blD d with
  | some true => mb s fl h1
  | some false => .ok (.bl false) h1
  | none => .err
def kOrV (mb : ME D) (s : SS) (fl : Nat) (r : R D) : R D := r.bind fun d h1 => match blD d with
  | some true => .ok (.bl true) h1
  | some false => mb s fl h1
  | none => .err
def kNotV (r : R D) : R D := r.bind fun d h1 => match blD d with
  | some k => .ok (.bl (!k)) h1
  | none => .err
@[simp] theorem x_AndV : mAndV ma mb s fl h = kAndV mb s fl (ma s fl h) := rfl
@[simp] theorem kAndV_t : kAndV mb s fl (.ok (.bl true) h) = mb s fl h := rfl
@[simp] theorem kAndV_f : kAndV mb s fl (.ok (.bl false) h) = .ok (.bl false) h := rfl
@[simp] theorem x_OrV : mOrV ma mb s fl h = kOrV mb s fl (ma s fl h) := rfl
@[simp] theorem kOrV_t : kOrV mb s fl (.ok (.bl true) h) = .ok (.bl true) h := rfl
@[simp] theorem kOrV_f : kOrV mb s fl (.ok (.bl false) h) = mb s fl h := rfl
@[simp] theorem x_NotV : mNotV ma s fl h = kNotV (ma s fl h) := rfl
@[simp] theorem kNotV_ok {k : Bool} : kNotV (.ok (.bl k) h) = .ok (.bl (!k)) h := rfl
def kIf {α : Type} (p q : ME α) (s : SS) (fl : Nat) (r : R Bool) : R α := r.bind fun k h1 => if k then p s fl h1 else q s fl h1
@[simp] theorem x_If {t : ME Bool} {p q : ME α} : mIf t p q s fl h = kIf p q s fl (t s fl h) := rfl
@[simp] theorem kIf_t {p q : ME α} : kIf p q s fl (.ok true h) = p s fl h := rfl
@[simp] theorem kIf_f {p q : ME α} : kIf p q s fl (.ok false h) = q s fl h := rfl
def kH1 (f f' : V2) (mb mc : ME D) (s : SS) (fl : Nat) (r : R D) : R D := r.bind fun x h1 => (mb s fl h1).bind fun y h2 => match (f h2 x y).bind blD with
  | some true => (mc s fl h2).bind fun z h3 => ofO (f' h3 y z) h3
  | some false => .ok (.bl false) h2
  | none => .err
def kH2 (f f' : V2) (mc : ME D) (s : SS) (fl : Nat) (x : D) (r : R D) : R D := r.bind fun y h2 => match (f h2 x y).bind blD with
  | some true => (mc s fl h2).bind fun z h3 => ofO (f' h3 y z) h3
  | some false => .ok (.bl false) h2
  | none => .err
def kH3 (f' : V2) (mc : ME D) (s : SS) (fl : Nat) (y : D) (h : Hs) (o : Option D) : R D := match o.bind blD with
  | some true => (mc s fl h).bind fun z h3 => ofO (f' h3 y z) h3
  | some false => .ok (.bl false) h
  | none => .err
@[simp] theorem x_Chain : mChain f f' ma mb mc s fl h = kH1 f f' mb mc s fl (ma s fl h) := rfl
@[simp] theorem kH1_ok : kH1 f f' mb mc s fl (.ok a h) = kH2 f f' mc s fl a (mb s fl h) := rfl
@[simp] theorem kH2_ok : kH2 f f' mc s fl a (.ok b h) = kH3 f' mc s fl b h (f h a b) := rfl
@[simp] theorem kH3_t : kH3 f' mc s fl b h (some (.bl true)) = kB2 f' b (mc s fl h) := rfl
@[simp] theorem kH3_f : kH3 f' mc s fl b h (some (.bl false)) = .ok (.bl false) h := rfl
def kJ1 (f f' f2 : V2) (mb mc md : ME D) (s : SS) (fl : Nat) (r : R D) : R Bool := r.bind fun x h1 => (mb s fl h1).bind fun y h2 => match (f h2 x y).bind blD with
  | some true => (mc s fl h2).bind fun z h3 => match (f' h3 y z).bind blD with
    | some true => (md s fl h3).bind fun w h4 => ofB ((f2 h4 z w).bind blD) h4
    | some false => .ok false h3
    | none => .err
  | some false => .ok false h2
  | none => .err
def kJ2 (f f' f2 : V2) (mc md : ME D) (s : SS) (fl : Nat) (x : D) (r : R D) : R Bool := r.bind fun y h2 => match (f h2 x y).bind blD with
  | some true => (mc s fl h2).bind fun z h3 => match (f' h3 y z).bind blD with
    | some true => (md s fl h3).bind fun w h4 => ofB ((f2 h4 z w).bind blD) h4
    | some false => .ok false h3
    | none => .err
  | some false => .ok false h2
  | none => .err
def kJ3 (f' f2 : V2) (mc md : ME D) (s : SS) (fl : Nat) (y : D) (h : Hs) (o : Option D) : R Bool := match o.bind blD with
  | some true => (mc s fl h).bind fun z h3 => match (f' h3 y z).bind blD with
    | some true => (md s fl h3).bind fun w h4 => ofB ((f2 h4 z w).bind blD) h4
    | some false => .ok false h3
    | none => .err
  | some false => .ok false h
  | none => .err
def kJ4 (f' f2 : V2) (md : ME D) (s : SS) (fl : Nat) (y : D) (r : R D) : R Bool := r.bind fun z h3 => match (f' h3 y z).bind blD with
    | some true => (md s fl h3).bind fun w h4 => ofB ((f2 h4 z w).bind blD) h4
    | some false => .ok false h3
    | none => .err
def kJ5 (f2 : V2) (md : ME D) (s : SS) (fl : Nat) (z : D) (h : Hs) (o : Option D) : R Bool := match o.bind blD with
    | some true => (md s fl h).bind fun w h4 => ofB ((f2 h4 z w).bind blD) h4
    | some false => .ok false h
    | none => .err
def kJ6 (f2 : V2) (z : D) (r : R D) : R Bool := r.bind fun w h4 => ofB ((f2 h4 z w).bind blD) h4
@[simp] theorem x_Chain3 : mChain3 f f' f2 ma mb mc md s fl h = kJ1 f f' f2 mb mc md s fl (ma s fl h) := rfl
@[simp] theorem kJ1_ok : kJ1 f f' f2 mb mc md s fl (.ok a h) = kJ2 f f' f2 mc md s fl a (mb s fl h) := rfl
@[simp] theorem kJ2_ok : kJ2 f f' f2 mc md s fl a (.ok b h) = kJ3 f' f2 mc md s fl b h (f h a b) := rfl
@[simp] theorem kJ3_t : kJ3 f' f2 mc md s fl b h (some (.bl true)) = kJ4 f' f2 md s fl b (mc s fl h) := rfl
@[simp] theorem kJ3_f : kJ3 f' f2 mc md s fl b h (some (.bl false)) = .ok false h := rfl
@[simp] theorem kJ4_ok : kJ4 f' f2 md s fl b (.ok c h) = kJ5 f2 md s fl c h (f' h b c) := rfl
@[simp] theorem kJ5_t : kJ5 f2 md s fl c h (some (.bl true)) = kJ6 f2 c (md s fl h) := rfl
@[simp] theorem kJ5_f : kJ5 f2 md s fl c h (some (.bl false)) = .ok false h := rfl
@[simp] theorem kJ6_ok : kJ6 f2 c (.ok d h) = ofB ((f2 h c d).bind blD) h := rfl
@[simp] theorem x_Nil : mNil s fl h = .ok [] h := rfl
def kC1 (ml : ME (List D)) (s : SS) (fl : Nat) (r : R D) : R (List D) := r.bind fun x h1 => (ml s fl h1).bind fun xs h2 => .ok (x :: xs) h2
def kC2 (x : D) (r : R (List D)) : R (List D) := r.bind fun xs h2 => .ok (x :: xs) h2
@[simp] theorem x_Cons : mCons ma ml s fl h = kC1 ml s fl (ma s fl h) := rfl
@[simp] theorem kC1_ok : kC1 ml s fl (.ok a h) = kC2 a (ml s fl h) := rfl
@[simp] theorem kC1_exc : kC1 ml s fl (.exc e h) = .exc e h := rfl
@[simp] theorem kC2_ok : kC2 a (.ok ds h) = .ok (a :: ds) h := rfl
@[simp] theorem kC2_exc : kC2 a (.exc e h) = .exc e h := rfl
def kTup (r : R (List D)) : R D := r.bind fun ds h1 => if ds.length ≤ 16777216 then .ok (.tup ds) h1 else .err
def kLstF (r : R (List D)) : R D := r.bind fun ds h1 => if ds.length ≤ 16777216 then .ok (.lst ds) h1 else .err
def kLstM (r : R (List D)) : R D := r.bind fun ds h1 => if ds.length ≤ 16777216 then .ok (.ref h1.length) (h1 ++ [.lst ds]) else .err
@[simp] theorem x_Tup : mTup ml s fl h = kTup (ml s fl h) := rfl
@[simp] theorem kTup_ok : kTup (.ok ds h) = if ds.length ≤ 16777216 then .ok (.tup ds) h else .err := rfl
@[simp] theorem x_LstF : mLstF ml s fl h = kLstF (ml s fl h) := rfl
@[simp] theorem kLstF_ok : kLstF (.ok ds h) = if ds.length ≤ 16777216 then .ok (.lst ds) h else .err := rfl
@[simp] theorem x_LstM : mLstM ml s fl h = kLstM (ml s fl h) := rfl
@[simp] theorem kLstM_ok : kLstM (.ok ds h) = if ds.length ≤ 16777216 then .ok (.ref h.length) (h ++ [.lst ds]) else .err := rfl
def kNeg (r : R D) : R D := r.bind fun d h1 => match d with
  | .int i => .ok (.int (-i)) h1
  | _ => .err
@[simp] theorem x_Neg : mNeg ma s fl h = kNeg (ma s fl h) := rfl
@[simp] theorem kNeg_ok {i : Int} : kNeg (.ok (.int i) h) = .ok (.int (-i)) h := rfl
@[simp] theorem x_NoP : mNoP s fl h = .ok none h := rfl
def kPart (r : R D) : R (Option Int) := r.bind fun d h1 => match d with
  | .int i => .ok (some i) h1
  | _ => .err
@[simp] theorem x_Part : mPart ma s fl h = kPart (ma s fl h) := rfl
@[simp] theorem kPart_ok {i : Int} : kPart (.ok (.int i) h) = .ok (some i) h := rfl
def kS1 (l u : ME (Option Int)) (s : SS) (fl : Nat) (r : R D) : R D := r.bind fun d h1 => (l s fl h1).bind fun lo h2 => (u s fl h2).bind fun hi h3 => ofO (slD h3 d lo hi) h3
def kS2 (u : ME (Option Int)) (s : SS) (fl : Nat) (d : D) (r : R (Option Int)) : R D := r.bind fun lo h2 => (u s fl h2).bind fun hi h3 => ofO (slD h3 d lo hi) h3
def kS3 (d : D) (lo : Option Int) (r : R (Option Int)) : R D := r.bind fun hi h3 => ofO (slD h3 d lo hi) h3
@[simp] theorem x_Sl {l u : ME (Option Int)} : mSl ma l u s fl h = kS1 l u s fl (ma s fl h) := rfl
@[simp] theorem kS1_ok {l u : ME (Option Int)} : kS1 l u s fl (.ok d h) = kS2 u s fl d (l s fl h) := rfl
@[simp] theorem kS2_ok {u : ME (Option Int)} {lo : Option Int} : kS2 u s fl d (.ok lo h) = kS3 d lo (u s fl h) := rfl
@[simp] theorem kS3_ok {lo hi : Option Int} : kS3 d lo (.ok hi h) = ofO (slD h d lo hi) h := rfl
def kFld (c i : Nat) (r : R D) : R D := r.bind fun d h1 => ofO (fldD c i h1 d) h1
@[simp] theorem x_Fld {c i : Nat} : mFld c i ma s fl h = kFld c i (ma s fl h) := rfl
@[simp] theorem kFld_ok {c i : Nat} : kFld c i (.ok d h) = ofO (fldD c i h d) h := rfl
@[simp] theorem x_Next : mNext s fl h = .nx s h := rfl
def kSeq (n : MS) (fl : Nat) (r : RS) : RS := r.seq fun s1 h1 => n s1 fl h1
@[simp] theorem x_Seq : mSeq m n s fl h = kSeq n fl (m s fl h) := rfl
@[simp] theorem kSeq_nx : kSeq n fl (.nx s h) = n s fl h := rfl
@[simp] theorem kSeq_rt : kSeq n fl (.rt d h) = .rt d h := rfl
@[simp] theorem kSeq_bk : kSeq n fl (.bk s h) = .bk s h := rfl
@[simp] theorem kSeq_ct : kSeq n fl (.ct s h) = .ct s h := rfl
@[simp] theorem kSeq_exc : kSeq n fl (.exc e s h) = .exc e s h := rfl
@[simp] theorem x_Brk : mBrk s fl h = .bk s h := rfl
@[simp] theorem x_Cnt : mCnt s fl h = .ct s h := rfl
def kExp (s : SS) (r : R D) : RS := r.bindS s fun _ h1 => .nx s h1
@[simp] theorem x_Exp : mExp ma s fl h = kExp s (ma s fl h) := rfl
@[simp] theorem kExp_ok : kExp s (.ok d h) = .nx s h := rfl
@[simp] theorem kExp_exc : kExp s (.exc e h) = .exc e s h := rfl
def kRet (s : SS) (r : R D) : RS := r.bindS s fun d h1 => .rt d h1
@[simp] theorem x_Ret : mRet ma s fl h = kRet s (ma s fl h) := rfl
@[simp] theorem kRet_ok : kRet s (.ok d h) = .rt d h := rfl
@[simp] theorem kRet_exc : kRet s (.exc e h) = .exc e s h := rfl
@[simp] theorem x_RetN : mRetN s fl h = .rt .non h := rfl
def kIfS (m n : MS) (s : SS) (fl : Nat) (r : R Bool) : RS := r.bindS s fun k h1 => if k then m s fl h1 else n s fl h1
@[simp] theorem x_IfS : mIfS ta m n s fl h = kIfS m n s fl (ta s fl h) := rfl
@[simp] theorem kIfS_t : kIfS m n s fl (.ok true h) = m s fl h := rfl
@[simp] theorem kIfS_f : kIfS m n s fl (.ok false h) = n s fl h := rfl
@[simp] theorem kIfS_exc : kIfS m n s fl (.exc e h) = .exc e s h := rfl
@[simp] theorem x_gN : gN i d s fl h = some (s.set i (some d), h) := rfl
@[simp] theorem x_gsNil : gsNil [] s fl h = some (s, h) := rfl
def kGs (gs : MGs) (ds : List D) (fl : Nat) (o : Option (SS × Hs)) : Option (SS × Hs) := o.bind fun p => gs ds p.1 fl p.2
@[simp] theorem x_gsCons {gs : MGs} {ds : List D} : gsCons g gs (d :: ds) s fl h = kGs gs ds fl (g d s fl h) := rfl
@[simp] theorem kGs_ok {gs : MGs} {ds : List D} : kGs gs ds fl (some (s, h)) = gs ds s fl h := rfl
@[simp] theorem x_gTp {gs : MGs} {ds : List D} {n : Nat} : gTp n gs (.tup ds) s fl h = if ds.length = n then gs ds s fl h else none := rfl
def kAsg (g : MG) (s : SS) (fl : Nat) (r : R D) : RS := r.bindS s fun d h1 => ofG (g d s fl h1)
@[simp] theorem x_Asg : mAsg ma g s fl h = kAsg g s fl (ma s fl h) := rfl
@[simp] theorem kAsg_ok : kAsg g s fl (.ok d h) = ofG (g d s fl h) := rfl
@[simp] theorem kAsg_exc : kAsg g s fl (.exc e h) = .exc e s h := rfl
@[simp] theorem ofG_some {p : SS × Hs} : ofG (some p) = .nx p.1 p.2 := rfl
@[simp] theorem ofG_none : ofG none = .err := rfl
def kPar (i j : Nat) (s : SS) (r : R (List D)) : RS := r.bindS s fun ds h1 => match ds with
  | [x, y] => .nx ((s.set i (some x)).set j (some y)) h1
  | _ => .err
@[simp] theorem x_Par : mPar i j ml s fl h = kPar i j s (ml s fl h) := rfl
@[simp] theorem kPar_ok : kPar i j s (.ok [a, b] h) = .nx ((s.set i (some a)).set j (some b)) h := rfl
def kPar3 (i j k : Nat) (s : SS) (r : R (List D)) : RS := r.bindS s fun ds h1 => match ds with
  | [x, y, z] => .nx (((s.set i (some x)).set j (some y)).set k (some z)) h1
  | _ => .err
@[simp] theorem x_Par3 : mPar3 i j k ml s fl h = kPar3 i j k s (ml s fl h) := rfl
@[simp] theorem kPar3_ok : kPar3 i j k s (.ok [a, b, c] h) = .nx (((s.set i (some a)).set j (some b)).set k (some c)) h := rfl
def kAug (i : Nat) (f : V2) (ma : ME D) (s : SS) (fl : Nat) (h : Hs) (o : Option D) : RS := match o with
  | none => .err
  | some x => (ma s fl h).bindS s fun y h1 => match f h1 x y with
    | some z => .nx (s.set i (some z)) h1
    | none => .err
def kAug2 (i : Nat) (f : V2) (x : D) (s : SS) (r : R D) : RS := r.bindS s fun y h1 => match f h1 x y with
    | some z => .nx (s.set i (some z)) h1
    | none => .err
def kAug3 (i : Nat) (s : SS) (h : Hs) (o : Option D) : RS := match o with
    | some z => .nx (s.set i (some z)) h
    | none => .err
@[simp] theorem x_Aug : mAug i f ma s fl h = kAug i f ma s fl h (slot s i) := rfl
@[simp] theorem kAug_ok : kAug i f ma s fl h (some a) = kAug2 i f a s (ma s fl h) := rfl
@[simp] theorem kAug2_ok : kAug2 i f a s (.ok b h) = kAug3 i s h (f h a b) := rfl
@[simp] theorem kAug3_ok : kAug3 i s h (some a) = .nx (s.set i (some a)) h := rfl
def kFor (g : MG) (m : MS) (s : SS) (fl : Nat) (r : R (List D)) : RS := r.bindS s fun ds h1 => mForL g m ds s fl h1
@[simp] theorem x_For {mi : ME (List D)} : mFor mi g m s fl h = kFor g m s fl (mi s fl h) := rfl
@[simp] theorem kFor_ok : kFor g m s fl (.ok ds h) = mForL g m ds s fl h := rfl
def kIt (p : D → Option (List D)) (r : R D) : R (List D) := r.bind fun d h1 => ofL (p d) h1
def kItL (p : Hs → List D → Option (List D)) (r : R (List D)) : R (List D) := r.bind fun d h1 => ofL (p h1 d) h1
@[simp] theorem x_ItL : mItL ma s fl h = kIt itD (ma s fl h) := rfl
@[simp] theorem x_ItT : mItT ma s fl h = kIt itT (ma s fl h) := rfl
@[simp] theorem x_ItS : mItS ma s fl h = kIt itS (ma s fl h) := rfl
@[simp] theorem kIt_ok {p : D → Option (List D)} : kIt p (.ok d h) = ofL (p d) h := rfl
@[simp] theorem x_EnT : mEnT ml s fl h = kItL itE (ml s fl h) := rfl
def kRng (p : List D → Option (List D)) (r : R (List D)) : R (List D) := r.bind fun d h1 => ofL (p d) h1
@[simp] theorem x_Rng {r : List D → Option (List D)} : mRng r ml s fl h = kRng r (ml s fl h) := rfl
@[simp] theorem kRng_ok {p : List D → Option (List D)} : kRng p (.ok ds h) = ofL (p ds) h := rfl
@[simp] theorem kItL_ok {p : Hs → List D → Option (List D)} : kItL p (.ok ds h) = ofL (p h ds) h := rfl
@[simp] theorem ofL_some {x : List D} : ofL (some x) h = .ok x h := rfl
@[simp] theorem ofL_none : ofL none h = .err := rfl
@[simp] theorem itD_lst {xs : List D} : itD (.lst xs) = some xs := rfl
@[simp] theorem itD_scr {xs : List Int} : itD (.scr xs) = some (xs.map .int) := rfl
@[simp] theorem itT_tup {xs : List D} : itT (.tup xs) = some xs := rfl
@[simp] theorem itS_str {l : List Nat} : itS (.str l) = some (l.map fun c => .str [c]) := rfl
@[simp] theorem itE_tup {xs : List D} : itE h [.tup xs] = some (enumL xs) := rfl
@[simp] theorem rng1_int {n : Int} : rng1 [.int n] = if inI n then some (rngL 0 n.toNat) else none := Eq.trans rfl rfl
@[simp] theorem rng2_int {a b : Int} : rng2 [.int a, .int b] = if inI a && inI b then some (rngL a (b - a).toNat) else none := Eq.trans rfl rfl
theorem inI_of {i : Int} (h : -4611686018427387904 ≤ i ∧ i < 4611686018427387904) : inI i = true := inI_iff.mpr h
def kCall (F : MF) (dds : List D) (fl : Nat) (r : R (List D)) : R D := r.bind fun ds h1 => F (ds ++ dds) fl h1
@[simp] theorem x_Call {F : MF} {dds : List D} : mCall F dds ml s fl h = kCall F dds fl (ml s fl h) := rfl
@[simp] theorem kCall_ok {F : MF} {dds : List D} : kCall F dds fl (.ok ds h) = F (ds ++ dds) fl h := rfl
def kCallK (F : MF) (gD : List D → List D → List D) (mk : ME (List D)) (s : SS) (fl : Nat) (r : R (List D)) : R D := r.bind fun ds h1 => (mk s fl h1).bind fun es h2 => F (gD ds es) fl h2
def kCallK2 (F : MF) (gD : List D → List D → List D) (fl : Nat) (ds : List D) (r : R (List D)) : R D := r.bind fun es h2 => F (gD ds es) fl h2
@[simp] theorem x_CallK {F : MF} {gD : List D → List D → List D} : mCallK F gD ml mk s fl h = kCallK F gD mk s fl (ml s fl h) := rfl
@[simp] theorem kCallK_ok {F : MF} {gD : List D → List D → List D} : kCallK F gD mk s fl (.ok ds h) = kCallK2 F gD fl ds (mk s fl h) := rfl
@[simp] theorem kCallK2_ok {F : MF} {gD : List D → List D → List D} : kCallK2 F gD fl ds (.ok es h) = F (gD ds es) fl h := rfl
def kBlt (v : VL) (r : R (List D)) : R D := r.bind fun ds h1 => ofO (v h1 ds) h1
@[simp] theorem x_Blt {v : VL} : mBlt v ml s fl h = kBlt v (ml s fl h) := rfl
@[simp] theorem kBlt_ok {v : VL} : kBlt v (.ok ds h) = ofO (v h ds) h := rfl
def kListM (r : R (List D)) : R D := r.bind fun ds h1 => match listF h1 ds with
  | some (.lst xs) => .ok (.ref h1.length) (h1 ++ [.lst xs])
  | _ => .err
def kListM2 (h : Hs) (o : Option D) : R D := match o with
  | some (.lst xs) => .ok (.ref h.length) (h ++ [.lst xs])
  | _ => .err
@[simp] theorem x_ListM : mListM ml s fl h = kListM (ml s fl h) := rfl
@[simp] theorem kListM_ok : kListM (.ok ds h) = kListM2 h (listF h ds) := rfl
@[simp] theorem kListM2_ok {xs : List D} : kListM2 h (some (.lst xs)) = .ok (.ref h.length) (h ++ [.lst xs]) := rfl
@[simp] theorem listF_scr {ns : List Int} : listF h [.scr ns] = some (.lst (ns.map .int)) := rfl
@[simp] theorem listF_lst {xs : List D} : listF h [.lst xs] = some (.lst xs) := rfl
@[simp] theorem listF_tup {xs : List D} : listF h [.tup xs] = some (.lst xs) := rfl
@[simp] theorem tupF_lst {xs : List D} : tupF h [.lst xs] = some (.tup xs) := rfl
@[simp] theorem tupF_tup {xs : List D} : tupF h [.tup xs] = some (.tup xs) := rfl
def kApp1 (ma : ME D) (s : SS) (fl : Nat) (r : R D) : R D := r.bind fun o h1 => if (lsAt h1 o).isSome then (ma s fl h1).bind fun d h2 => match lsAt h2 o with
  | some (j, xs) => if wrOk fl j d && decide (xs.length < 16777216) then .ok .non (h2.set j (.lst (xs ++ [d]))) else .err
  | none => .err
  else .err
def kApp2 (fl : Nat) (o : D) (r : R D) : R D := r.bind fun d h2 => match lsAt h2 o with
  | some (j, xs) => if wrOk fl j d && decide (xs.length < 16777216) then .ok .non (h2.set j (.lst (xs ++ [d]))) else .err
  | none => .err
def kApp3 (fl : Nat) (d : D) (h : Hs) (o : Option (Nat × List D)) : R D := match o with
  | some (j, xs) => if wrOk fl j d && decide (xs.length < 16777216) then .ok .non (h.set j (.lst (xs ++ [d]))) else .err
  | none => .err
@[simp] theorem x_App {mo : ME D} : mApp mo ma s fl h = kApp1 ma s fl (mo s fl h) := rfl
@[simp] theorem kApp1_ok : kApp1 ma s fl (.ok a h) = if (lsAt h a).isSome then kApp2 fl a (ma s fl h) else .err := rfl
@[simp] theorem kApp2_ok : kApp2 fl a (.ok d h) = kApp3 fl d h (lsAt h a) := rfl
@[simp] theorem kApp3_ok {xs : List D} : kApp3 fl d h (some (j, xs)) = if wrOk fl j d && decide (xs.length < 16777216) then .ok .non (h.set j (.lst (xs ++ [d]))) else .err := rfl
def kG1 (mi : ME D) (d : D) (s : SS) (fl : Nat) (r : R D) : Option (SS × Hs) := match r with
  | .ok o h1 => match mi s fl h1 with
    | .ok i h2 => (lSet fl h2 o i d).map fun h3 => (s, h3)
    | _ => none
  | _ => none
def kG2 (d : D) (s : SS) (fl : Nat) (o : D) (r : R D) : Option (SS × Hs) := match r with
    | .ok i h2 => (lSet fl h2 o i d).map fun h3 => (s, h3)
    | _ => none
def kG3 (s : SS) (o : Option Hs) : Option (SS × Hs) := o.map fun h3 => (s, h3)
@[simp] theorem x_gIx {mo mi : ME D} : gIx mo mi d s fl h = kG1 mi d s fl (mo s fl h) := rfl
@[simp] theorem kG1_ok {mi : ME D} : kG1 mi d s fl (.ok a h) = kG2 d s fl a (mi s fl h) := rfl
@[simp] theorem kG2_ok : kG2 d s fl a (.ok b h) = kG3 s (lSet fl h a b d) := rfl
@[simp] theorem kG3_ok : kG3 s (some h) = some (s, h) := rfl
@[simp] theorem x_Yes : mYes s fl h = .ok true h := rfl
@[simp] theorem x_Def {n : Nat} {b : MS} {ds : List D} : mDef n b ds fl h = endF (b (begS n ds) fl h) := rfl
@[simp] theorem endF_rt : endF (.rt d h) = .ok d h := rfl
@[simp] theorem endF_nx : endF (.nx s h) = .ok .non h := rfl
@[simp] theorem endF_exc {e : Ex} : endF (.exc e s h) = .exc e h := rfl
@[simp] theorem vw_int' {i : Int} : vw h (.int i) = .int i := rfl
@[simp] theorem vw_str' {l : List Nat} : vw h (.str l) = .str l := rfl
@[simp] theorem vw_bl' {b : Bool} : vw h (.bl b) = .bl b := rfl
@[simp] theorem vw_non' : vw h .non = .non := rfl
@[simp] theorem vw_tup' {l : List D} : vw h (.tup l) = .tup l := rfl
@[simp] theorem vw_lst' {l : List D} : vw h (.lst l) = .lst l := rfl
theorem vw_at {xs : List D} (e : h[i]? = some (.lst xs)) : vw h (.ref i) = .lst xs := by simp [vw, e]
@[simp] theorem vw_0 {xs : List D} {r : Hs} : vw (.lst xs :: r) (.ref 0) = .lst xs := rfl
@[simp] theorem vw_1 {o : Ob} {xs : List D} {r : Hs} : vw (o :: .lst xs :: r) (.ref 1) = .lst xs := rfl
@[simp] theorem vw_end {xs : List D} : vw (h ++ [.lst xs]) (.ref h.length) = .lst xs := vw_at (by simp)
@[simp] theorem addD_int {i j : Int} : addD h (.int i) (.int j) = some (.int (i + j)) := rfl
@[simp] theorem addD_str {x y : List Nat} : addD h (.str x) (.str y) = if x.length + y.length ≤ 16777216 then some (.str (x ++ y)) else none := rfl
theorem addD_lst {a b : D} {x y : List D} (e1 : vw h a = .lst x) (e2 : vw h b = .lst y) : addD h a b = if x.length + y.length ≤ 16777216 then some (.lst (x ++ y)) else none := by
  unfold addD; rw [e1, e2]
@[simp] theorem subD_int {i j : Int} : subD h (.int i) (.int j) = some (.int (i - j)) := rfl
@[simp] theorem mulM_int {i j : Int} : mulM h (.int i) (.int j) = if i.natAbs < 18446744073709551616 ∨ j.natAbs < 18446744073709551616 then some (.int (i * j)) else none := rfl
@[simp] theorem mulM_lst {x : List D} {k : Int} : mulM h (.lst x) (.int k) = if x.length * k.toNat ≤ 16777216 ∧ inI k = true then some (.lst (List.replicate k.toNat x).flatten) else none := rfl
@[simp] theorem divD_int {i j : Int} : divD h (.int i) (.int j) = if 0 < j ∧ j < 1073741824 then some (.int (i / j)) else none := rfl
@[simp] theorem modD_int {i j : Int} : modD h (.int i) (.int j) = if 0 < j then some (.int (i % j)) else none := rfl
@[simp] theorem powD_int {i j : Int} : powD h (.int i) (.int j) = if 0 ≤ j ∧ j ≤ 1000000 ∧ i.natAbs < 18446744073709551616 then some (.int (i ^ j.toNat)) else none := rfl
@[simp] theorem ltM_int {i j : Int} : ltM h (.int i) (.int j) = some (.bl (decide (i < j))) := rfl
@[simp] theorem leM_int {i j : Int} : leM h (.int i) (.int j) = some (.bl (decide (i ≤ j))) := rfl
@[simp] theorem gtM_int {i j : Int} : gtM h (.int i) (.int j) = some (.bl (decide (j < i))) := rfl
@[simp] theorem geM_int {i j : Int} : geM h (.int i) (.int j) = some (.bl (decide (j ≤ i))) := rfl
@[simp] theorem eqM_int {i j : Int} : eqM h (.int i) (.int j) = some (.bl (i == j)) := rfl
@[simp] theorem neM_int {i j : Int} : neM h (.int i) (.int j) = some (.bl (!(i == j))) := rfl
@[simp] theorem eqM_str {i j : List Nat} : eqM h (.str i) (.str j) = some (.bl (i == j)) := rfl
@[simp] theorem neM_str {i j : List Nat} : neM h (.str i) (.str j) = some (.bl (!(i == j))) := rfl
@[simp] theorem iaddD_int {i j : Int} : iaddD h (.int i) (.int j) = some (.int (i + j)) := rfl
@[simp] theorem iaddD_str {x y : List Nat} : iaddD h (.str x) (.str y) = if x.length + y.length ≤ 16777216 then some (.str (x ++ y)) else none := rfl
theorem ixD_lst {a : D} {x : List D} {i : Int} (e1 : vw h a = .lst x) : ixD h a (.int i) = atI x i := by unfold ixD; rw [e1]
@[simp] theorem ixD_lst' {x : List D} {i : Int} : ixD h (.lst x) (.int i) = atI x i := rfl
@[simp] theorem ixD_tup {x : List D} {i : Int} : ixD h (.tup x) (.int i) = atI x i := rfl
@[simp] theorem ixD_str {x : List Nat} {i : Int} : ixD h (.str x) (.int i) = (atI x i).map fun c => .str [c] := rfl
@[simp] theorem len_lst {xs : List D} : lenF h [.lst xs] = some (.int xs.length) := rfl
@[simp] theorem len_tup {xs : List D} : lenF h [.tup xs] = some (.int xs.length) := rfl
@[simp] theorem len_str {xs : List Nat} : lenF h [.str xs] = some (.int xs.length) := rfl
theorem len_at {a : D} {xs : List D} (e : vw h a = .lst xs) : lenF h [a] = some (.int xs.length) := by unfold lenF; simp only; rw [e]
@[simp] theorem max2_int {i j : Int} : max2F h [.int i, .int j] = some (.int (if j > i then j else i)) := rfl
@[simp] theorem min2_int {i j : Int} : min2F h [.int i, .int j] = some (.int (if j < i then j else i)) := rfl
@[simp] theorem inM_sign {c : Nat} {z : List Nat} : inM h (.str [c]) (.str z) = some (.bl (decide (c ∈ z))) := rfl
@[simp] theorem notInM_sign {c : Nat} {z : List Nat} : notInM h (.str [c]) (.str z) = some (.bl (!decide (c ∈ z))) := rfl
@[simp] theorem wrOk_int {i : Int} : wrOk fl j (.int i) = true := by simp [wrOk, D.low]
@[simp] theorem wrOk_str {l : List Nat} : wrOk fl j (.str l) = true := by simp [wrOk, D.low]
@[simp] theorem wrOk_bl {l : Bool} : wrOk fl j (.bl l) = true := by simp [wrOk, D.low]
@[simp] theorem wrOk_non : wrOk fl j .non = true := by simp [wrOk, D.low]
theorem wrOk_ge {d : D} (q : fl ≤ j) : wrOk fl j d = true := by simp [wrOk, q]
theorem lsAt_of {xs : List D} (e : h[i]? = some (.lst xs)) : lsAt h (.ref i) = some (i, xs) := by simp [lsAt, e]
@[simp] theorem lsAt_end {xs : List D} : lsAt (h ++ [.lst xs]) (.ref h.length) = some (h.length, xs) := lsAt_of (by simp)
@[simp] theorem lsAt_0 {xs : List D} {r : Hs} : lsAt (.lst xs :: r) (.ref 0) = some (0, xs) := rfl
@[simp] theorem lsAt_1 {o : Ob} {xs : List D} {r : Hs} : lsAt (o :: .lst xs :: r) (.ref 1) = some (1, xs) := rfl
@[simp] theorem set_end {o o' : Ob} : (h ++ [o]).set h.length o' = h ++ [o'] := by
  rw [List.set_append_right _ _ (Nat.le_refl _)]
  simp
def kL1 (fl : Nat) (h : Hs) (k : Int) (v : D) (o : Option (Nat × List D)) : Option Hs := o.bind fun p => (ixN p.2.length k).bind fun j => if wrOk fl p.1 v then some (h.set p.1 (.lst (p.2.set j v))) else none
def kL2 (fl : Nat) (h : Hs) (i : Nat) (xs : List D) (v : D) (o : Option Nat) : Option Hs := o.bind fun j => if wrOk fl i v then some (h.set i (.lst (xs.set j v))) else none
@[simp] theorem lSet_int {o : D} {v : D} {k : Int} : lSet fl h o (.int k) v = kL1 fl h k v (lsAt h o) := rfl
@[simp] theorem kL1_ok {v : D} {k : Int} {xs : List D} : kL1 fl h k v (some (i, xs)) = kL2 fl h i xs v (ixN xs.length k) := rfl
@[simp] theorem kL2_ok {v : D} {xs : List D} {j : Nat} : kL2 fl h i xs v (some j) = if wrOk fl i v then some (h.set i (.lst (xs.set j v))) else none := rfl
@[simp] theorem begS_nil {n : Nat} : begS n [] = List.replicate n none := by simp [begS]
end
theorem atI_nat' {α : Type} {l : List α} {n : Nat} (hn : n < l.length) : atI l (n : Int) = some l[n] := by
  unfold atI
  have : ixN l.length (n : Int) = some n := by unfold ixN; rw [if_pos (by omega), if_pos (by omega)]; simp
  rw [this]
  simp [hn]
theorem ixN_ok {n : Nat} {i : Int} (h0 : 0 ≤ i) (h1 : i < n) : ixN n i = some i.toNat := by unfold ixN; rw [if_pos h0, if_pos h1]
theorem atI_ok {α : Type} {l : List α} {i : Int} (h0 : 0 ≤ i) (h1 : i < l.length) : atI l i = some (l[i.toNat]'(by omega)) := by
  unfold atI
  rw [ixN_ok h0 h1]
  simp
section
variable {α : Type} {x y z w u : α} {r : List α}
@[simp] theorem atI_0 : atI (x :: r) 0 = some x := atI_ok (by omega) (by simp)
@[simp] theorem atI_1 : atI (x :: y :: r) 1 = some y := atI_ok (by omega) (by simp; omega)
@[simp] theorem atI_2 : atI (x :: y :: z :: r) 2 = some z := atI_ok (by omega) (by simp; omega)
@[simp] theorem atI_3 : atI (x :: y :: z :: w :: r) 3 = some w := atI_ok (by omega) (by simp; omega)
@[simp] theorem atI_4 : atI (x :: y :: z :: w :: u :: r) 4 = some u := atI_ok (by omega) (by simp; omega)
@[simp] theorem ixN30 : ixN 3 0 = some 0 := rfl
@[simp] theorem ixN31 : ixN 3 1 = some 1 := rfl
@[simp] theorem ixN32 : ixN 3 2 = some 2 := rfl
@[simp] theorem ixN20 : ixN 2 0 = some 0 := rfl
@[simp] theorem ixN21 : ixN 2 1 = some 1 := rfl
@[simp] theorem ixN10 : ixN 1 0 = some 0 := rfl
end
def turn (g : MG) (body : MS) (d : D) (s : SS) (fl : Nat) (h : Hs) : RS := match g d s fl h with
  | none => .err
  | some p => body p.1 fl p.2
theorem mForL_eq {g : MG} {body : MS} {d : D} {ds : List D} {s : SS} {fl : Nat} {h : Hs} : mForL g body (d :: ds) s fl h = match turn g body d s fl h with
      | .nx s2 h2 => mForL g body ds s2 fl h2
      | .ct s2 h2 => mForL g body ds s2 fl h2
      | .bk s2 h2 => .nx s2 h2
      | .rt d h2 => .rt d h2
      | .exc e s2 h2 => .exc e s2 h2
      | .err => .err := by
  unfold turn
  rw [mForL]
  cases g d s fl h <;> rfl
theorem mForL_cons {g : MG} {body : MS} {d : D} {ds : List D} {s s' : SS} {fl : Nat} {h h' : Hs} (e : turn g body d s fl h = .nx s' h') : mForL g body (d :: ds) s fl h = mForL g body ds s' fl h' := by
  rw [mForL_eq, e]
theorem mForL_ct {g : MG} {body : MS} {d : D} {ds : List D} {s s' : SS} {fl : Nat} {h h' : Hs} (e : turn g body d s fl h = .ct s' h') : mForL g body (d :: ds) s fl h = mForL g body ds s' fl h' := by
  rw [mForL_eq, e]
@[simp] theorem mForL_nil {g : MG} {body : MS} {s : SS} {fl : Nat} {h : Hs} : mForL g body [] s fl h = .nx s h := rfl
/-- a for without return, by what holds ahead of the i-th turn -/
theorem forL_inv {g : MG} {body : MS} {fl : Nat} (P : Nat → SS → Hs → Prop) : ∀ (ds : List D) (k : Nat) (s : SS) (h : Hs), P k s h → (∀ i d s h, ds[i]? = some d → P (k + i) s h → ∃ s' h', turn g body d s fl h = .nx s' h' ∧ P (k + i + 1) s' h') →
    ∃ s' h', mForL g body ds s fl h = .nx s' h' ∧ P (k + ds.length) s' h'
  | [], k, s, h, p, _ => ⟨s, h, rfl, p⟩
  | d :: ds, k, s, h, p, st => by
    obtain ⟨s1, h1, e1, p1⟩ := st 0 d s h (by simp) p
    obtain ⟨s2, h2, e2, p2⟩ := forL_inv P ds (k + 1) s1 h1 p1 fun i x s h hx q => by
      have z : k + 1 + i = k + (i + 1) := by omega
      rw [z] at q ⊢
      exact st (i + 1) x s h (by simpa using hx) q
    refine ⟨s2, h2, by rw [mForL_cons e1]; exact e2, ?_⟩
    have z : k + (d :: ds).length = k + 1 + ds.length := by simp; omega
    rw [z]
    exact p2
theorem rngL_get {lo : Int} {n i : Nat} {d : D} (e : (rngL lo n)[i]? = some d) : i < n ∧ d = .int (lo + i) := by
  unfold rngL at e
  rw [List.getElem?_map] at e
  cases o : (List.range n)[i]? with
  | none => rw [o] at e; cases e
  | some k =>
    have hi : i < n := by have := (List.getElem?_eq_some_iff.mp o).1; simpa using this
    rw [List.getElem?_range hi] at o
    cases o
    rw [List.getElem?_range hi] at e
    cases e
    exact ⟨hi, rfl⟩
theorem rngL_len {lo : Int} {n : Nat} : (rngL lo n).length = n := by simp [rngL]
/-- for i in range: what holds ahead of the i-th turn -/
theorem for_rng {g : MG} {body : MS} {fl n : Nat} {lo : Int} (P : Nat → SS → Hs → Prop) {s : SS} {h : Hs} (p : P 0 s h) (st : ∀ i s h, i < n → P i s h → ∃ s' h', turn g body (.int (lo + i)) s fl h = .nx s' h' ∧ P (i + 1) s' h') :
    ∃ s' h', mForL g body (rngL lo n) s fl h = .nx s' h' ∧ P n s' h' := by
  obtain ⟨s', h', e, q⟩ := forL_inv (g := g) (body := body) (fl := fl) P (rngL lo n) 0 s h p fun i d s h hd q => by
    obtain ⟨hi, ed⟩ := rngL_get hd
    subst ed
    have z : 0 + i = i := by omega
    rw [z] at q ⊢
    exact st i s h hi q
  refine ⟨s', h', e, ?_⟩
  rw [rngL_len, Nat.zero_add] at q
  exact q
theorem shal_strs {n : Nat} : ∀ rows : List (List Nat), shalL n (rows.map .str) = true
  | [] => rfl
  | r :: rs => by simp [shalL, shal, shal_strs rs]
theorem shal_ints {n : Nat} : ∀ l : List Int, shalL n (l.map .int) = true
  | [] => rfl
  | r :: rs => by simp [shalL, shal, shal_ints rs]
theorem clean_ok {f : MF} {ds : List D} {fl : Nat} {h h' : Hs} {d d' : D} (e : f ds h.length h = .ok d h') (z : frz 64 h.length h' d = some d') : clean f ds fl h = .ok d' (h'.take h.length) := by
  unfold clean
  rw [e]
  simp only
  rw [z]
/-- .. that answers a plain value and leaves the heap as it was, but for what is above -/
theorem clean_pure {f : MF} {ds : List D} {fl : Nat} {h r : Hs} {d : D} (e : f ds h.length h = .ok d (h ++ r)) (z : shal 63 d = true) : clean f ds fl h = .ok d h := by
  rw [clean_ok e (frz_pure 63 _ _ d z)]
  simp
theorem clean_pure0 {f : MF} {ds : List D} {fl : Nat} {h : Hs} {d : D} (e : f ds h.length h = .ok d h) (z : shal 63 d = true) : clean f ds fl h = .ok d h := by
  rw [clean_ok e (frz_pure 63 _ _ d z)]
  simp
/-- .. that answers its own new list of plain values -/
theorem clean_list {f : MF} {ds : List D} {fl : Nat} {h : Hs} {xs : List D} (e : f ds h.length h = .ok (.ref h.length) (h ++ [.lst xs])) (z : shalL 62 xs = true) : clean f ds fl h = .ok (.lst xs) h := by
  have q : frz 64 h.length (h ++ [.lst xs]) (.ref h.length) = some (.lst xs) := by
    unfold frz
    simp only [Nat.lt_irrefl, if_false, List.getElem?_concat_length]
    rw [frzL_pure 62 _ _ xs z]
    rfl
  rw [clean_ok e q]
  simp
theorem while_inv {t : ME Bool} {body : MS} {fl : Nat} {Q : SS → Hs → Prop} (P : Nat → SS → Hs → Prop)
    (st : ∀ k s h, P k s h → (t s fl h = .ok false h ∧ Q s h) ∨ (∃ k' s' h', k = k' + 1 ∧ t s fl h = .ok true h ∧ body s fl h = .nx s' h' ∧ P k' s' h')) :
    ∀ (N k : Nat) (s : SS) (h : Hs), P k s h → k < N → ∃ s' h', mWhile t body N s fl h = .nx s' h' ∧ Q s' h'
  | 0, k, s, h, p, hk => by omega
  | N + 1, k, s, h, p, hk => by
    rcases st k s h p with ⟨e, q⟩ | ⟨k', s', h', ek, e1, e2, p'⟩
    · exact ⟨s, h, by rw [mWhile, e]; rfl, q⟩
    · obtain ⟨s2, h2, e3, q⟩ := while_inv P st N k' s' h' p' (by omega)
      refine ⟨s2, h2, ?_, q⟩
      rw [mWhile, e1]
      simp only [R.bindS_ok, if_true]
      rw [e2]
      exact e3
def kLc (own : List Nat) (g : MG) (tt : ME Bool) (te : ME D) (s : SS) (r : R (List D)) : R D := r.bind fun ds h1 => match mLcL g tt te own h1.length ds s (h1 ++ [.lst []]) with
  | .ok _ hh => match frz 64 h1.length hh (.ref h1.length) with
    | some d => .ok d (hh.take h1.length)
    | none => .err
  | _ => .err
@[simp] theorem x_Lc {own : List Nat} {g : MG} {tt : ME Bool} {te : ME D} {mi : ME (List D)} {s : SS} {fl : Nat} {h : Hs} : mLc own g tt te mi s fl h = kLc own g tt te s (mi s fl h) := rfl
theorem lcL_map {own : List Nat} {g : MG} {tt : ME Bool} {te : ME D} {s : SS} {h : Hs} (fn : D → Option D) : ∀ (ds : List D) (acc : List D), acc.length + ds.length ≤ 16777216 →
    (∀ d ∈ ds, ∀ acc : List D, ∃ s1, g d (wipeS s own) h.length (h ++ [.lst acc]) = some (s1, h ++ [.lst acc]) ∧ ((tt s1 h.length (h ++ [.lst acc]) = .ok false (h ++ [.lst acc]) ∧ fn d = none) ∨ (tt s1 h.length (h ++ [.lst acc]) = .ok true (h ++ [.lst acc]) ∧ ∃ y, te s1 h.length (h ++ [.lst acc]) = .ok y (h ++ [.lst acc]) ∧ fn d = some y))) →
    mLcL g tt te own h.length ds s (h ++ [.lst acc]) = .ok () (h ++ [.lst (acc ++ ds.filterMap fn)])
  | [], acc, _, _ => by simp [mLcL]
  | d :: ds, acc, hl, st => by
    simp only [List.length_cons] at hl
    obtain ⟨s1, e1, e2⟩ := st d (by simp) acc
    have st' : ∀ d ∈ ds, ∀ acc : List D, ∃ s1, g d (wipeS s own) h.length (h ++ [.lst acc]) = some (s1, h ++ [.lst acc]) ∧ ((tt s1 h.length (h ++ [.lst acc]) = .ok false (h ++ [.lst acc]) ∧ fn d = none) ∨ (tt s1 h.length (h ++ [.lst acc]) = .ok true (h ++ [.lst acc]) ∧ ∃ y, te s1 h.length (h ++ [.lst acc]) = .ok y (h ++ [.lst acc]) ∧ fn d = some y)) := fun x hx => st x (by simp [hx])
    rw [mLcL, e1]
    simp only
    rcases e2 with ⟨e2, e3⟩ | ⟨e2, y, e3, e4⟩
    · rw [e2]
      simp only [R.bindN_ok, Bool.false_eq_true, if_false, List.filterMap_cons, e3]
      exact lcL_map fn ds acc (by omega) st'
    · rw [e2]
      simp only [R.bindN_ok, if_true, List.filterMap_cons, e4]
      rw [e3]
      simp only [R.bindN_ok, List.getElem?_concat_length]
      rw [if_pos (by omega), set_end, lcL_map fn ds (acc ++ [y]) (by simp; omega) st']
      simp
theorem lc_ok {own : List Nat} {g : MG} {tt : ME Bool} {te : ME D} {s : SS} {h : Hs} {ds : List D} (fn : D → Option D) (hl : ds.length ≤ 16777216) (hs : shalL 62 (ds.filterMap fn) = true)
    (st : ∀ d ∈ ds, ∀ acc : List D, ∃ s1, g d (wipeS s own) h.length (h ++ [.lst acc]) = some (s1, h ++ [.lst acc]) ∧ ((tt s1 h.length (h ++ [.lst acc]) = .ok false (h ++ [.lst acc]) ∧ fn d = none) ∨ (tt s1 h.length (h ++ [.lst acc]) = .ok true (h ++ [.lst acc]) ∧ ∃ y, te s1 h.length (h ++ [.lst acc]) = .ok y (h ++ [.lst acc]) ∧ fn d = some y))) :
    kLc own g tt te s (.ok ds h) = .ok (.lst (ds.filterMap fn)) h := by
  unfold kLc
  simp only [R.bind_ok]
  rw [lcL_map fn ds [] (by simpa using hl) st]
  have q : frz 64 h.length (h ++ [.lst ([] ++ ds.filterMap fn)]) (.ref h.length) = some (.lst (ds.filterMap fn)) := by
    unfold frz
    simp only [Nat.lt_irrefl, if_false, List.getElem?_concat_length, List.nil_append]
    rw [frzL_pure 62 _ _ _ hs]
    rfl
  simp only
  rw [q]
  simp
end NC

namespace NC
open PySem PySem.Spec L2
open PyProof.Rows hiding St
section
variable {s : SS} {fl : Nat} {h : Hs} {m : MS} {d : D} {e : Ex} {vs : List Nat} {v : Nat}
def kWipe (vs : List Nat) : RS → RS
  | .nx s' h' => .nx (wipeS s' vs) h'
  | .ct s' h' => .ct (wipeS s' vs) h'
  | r => r
@[simp] theorem x_Wipe : mWipe vs m s fl h = kWipe vs (m s fl h) := by unfold mWipe kWipe; rfl
@[simp] theorem kWipe_nx : kWipe vs (.nx s h) = .nx (wipeS s vs) h := rfl
@[simp] theorem kWipe_ct : kWipe vs (.ct s h) = .ct (wipeS s vs) h := rfl
@[simp] theorem kWipe_rt : kWipe vs (.rt d h) = .rt d h := rfl
@[simp] theorem kWipe_bk : kWipe vs (.bk s h) = .bk s h := rfl
@[simp] theorem kWipe_exc : kWipe vs (.exc e s h) = .exc e s h := rfl
@[simp] theorem wipeS_nil : wipeS s [] = s := rfl
@[simp] theorem wipeS_cons : wipeS s (v :: vs) = (wipeS s vs).set v none := rfl
end
theorem for_list_eq {g : MG} {body : MS} {fl : Nat} (ds : List D) (st : Nat → SS) (hh : Nat → Hs) (q : ∀ i (hi : i < ds.length), turn g body ds[i] (st i) fl (hh i) = .nx (st (i + 1)) (hh (i + 1))) :
    mForL g body ds (st 0) fl (hh 0) = .nx (st ds.length) (hh ds.length) := by
  have key : ∀ (n i : Nat), i + n = ds.length → mForL g body (ds.drop i) (st i) fl (hh i) = .nx (st ds.length) (hh ds.length) := by
    intro n
    induction n with
    | zero =>
      intro i hi
      have : i = ds.length := by omega
      subst this
      rw [List.drop_length]
      rfl
    | succ n ih =>
      intro i hi
      have hlt : i < ds.length := by omega
      rw [List.drop_eq_getElem_cons hlt, mForL_cons (q i hlt)]
      exact ih (i + 1) (by omega)
  exact key ds.length 0 (by omega)
theorem for_rng_eq {g : MG} {body : MS} {fl n : Nat} {lo : Int} (st : Nat → SS) (hh : Nat → Hs) (q : ∀ i, i < n → turn g body (.int (lo + i)) (st i) fl (hh i) = .nx (st (i + 1)) (hh (i + 1))) :
    mForL g body (rngL lo n) (st 0) fl (hh 0) = .nx (st n) (hh n) := by
  have := for_list_eq (g := g) (body := body) (fl := fl) (rngL lo n) st hh fun i hi => by
    rw [rngL_len] at hi
    have : (rngL lo n)[i]? = some (.int (lo + i)) := by unfold rngL; simp [hi]
    obtain ⟨a, b⟩ := List.getElem?_eq_some_iff.mp this
    rw [b]
    exact q i hi
  rw [rngL_len] at this
  exact this
/-- a loop as a fold, under what holds ahead of the i-th turn -/
theorem for_fold {α A : Type} {g : MG} {body : MS} {fl : Nat} (f : α → D) (step : A → α → A) (es : A → SS) (eh : A → Hs) (P : Nat → A → Prop) : ∀ (ds : List α) (k : Nat) (a : A), P k a →
    (∀ i (hi : i < ds.length) a, P (k + i) a → turn g body (f ds[i]) (es a) fl (eh a) = .nx (es (step a ds[i])) (eh (step a ds[i])) ∧ P (k + i + 1) (step a ds[i])) →
    mForL g body (ds.map f) (es a) fl (eh a) = .nx (es (ds.foldl step a)) (eh (ds.foldl step a)) ∧ P (k + ds.length) (ds.foldl step a)
  | [], k, a, p, _ => ⟨rfl, p⟩
  | d :: ds, k, a, p, q => by
    obtain ⟨e1, p1⟩ := q 0 (by simp) a p
    simp only [List.getElem_cons_zero] at e1 p1
    obtain ⟨e2, p2⟩ := for_fold f step es eh P ds (k + 1) (step a d) p1 fun i hi b pb => by
      have z : k + 1 + i = k + (i + 1) := by omega
      rw [z] at pb ⊢
      have := q (i + 1) (by simp; omega) b pb
      simpa using this
    refine ⟨?_, ?_⟩
    · simp only [List.map_cons, List.foldl_cons]
      rw [mForL_cons e1]
      exact e2
    · have z : k + (d :: ds).length = k + 1 + ds.length := by simp; omega
      rw [z]
      exact p2
/-- step, as long as c, so often at most -/
def iterP {A : Type} (c : A → Bool) (step : A → A) : Nat → A → A
  | 0, a => a
  | k + 1, a => if c a = true then iterP c step k (step a) else a
theorem while_fold {A : Type} {t : ME Bool} {body : MS} {fl : Nat} (c : A → Bool) (step : A → A) (es : A → SS) (eh : A → Hs) (P : Nat → A → Prop)
    (q : ∀ k a, P k a → t (es a) fl (eh a) = .ok (c a) (eh a) ∧ (c a = true → body (es a) fl (eh a) = .nx (es (step a)) (eh (step a)) ∧ ∃ k', k = k' + 1 ∧ P k' (step a))) :
    ∀ (N k : Nat) (a : A), P k a → k < N → mWhile t body N (es a) fl (eh a) = .nx (es (iterP c step k a)) (eh (iterP c step k a)) ∧ ∃ j, P j (iterP c step k a) ∧ c (iterP c step k a) = false := by
  intro N
  induction N with
  | zero => intro k a _ h; omega
  | succ N ih =>
    intro k a p hk
    obtain ⟨e1, e2⟩ := q k a p
    rw [mWhile, e1]
    simp only [R.bindS_ok]
    by_cases hc : c a = true
    · obtain ⟨e3, k', ek, p'⟩ := e2 hc
      subst ek
      obtain ⟨r1, r2⟩ := ih k' (step a) p' (by omega)
      rw [hc]
      simp only [if_true]
      rw [e3]
      simp only [iterP]
      rw [if_pos hc]
      exact ⟨r1, r2⟩
    · have hc' : c a = false := by simpa using hc
      have ei : iterP c step k a = a := by
        cases k with
        | zero => rfl
        | succ k => rw [iterP, if_neg hc]
      rw [hc', ei]
      exact ⟨by simp, k, p, hc'⟩
end NC

namespace G
open PySem PySem.Spec L2 NC
open PyProof.Rows hiding St
abbrev prg : Program := PySem.Challenge.pw_needlecloth_k28_whole_pull_and_what_make
def top (i : Nat) : Stmt := prg.main.body.getD i (.Pass ⟨0, 0, 0, 0⟩)
def l__law_mix_1 : MS := (mWipe [3] (mAsg (mBin modD (mBin addD (mBin addD (mBin mulM (mV 2) (mC (.int 48271))) (mBin modD (mV 3) (mC (.int 2147483629)))) (mC (.int 1))) (mC (.int 2147483647))) (gN 2)))
@[simp] def gkb_made_good_2_long {α : Type} (vs zs : List α) : List α := vs ++ zs
@[simp] def gkb_stitches_1_long {α : Type} (vs zs : List α) : List α := vs ++ zs
@[simp] def gkb_gaps_2_long {α : Type} (vs zs : List α) : List α := vs ++ zs
def b__law_mix : MS := (mSeq (mAsg (mV 1) (gN 2))
  (mSeq (mWipe [3] (mFor (mItL (mV 0)) (gN 3) l__law_mix_1))
  (mRet (mLstM (mCons (mV 2) (mCons (mListM (mCons (mV 0) mNil)) (mCons (mC (.int 0)) mNil)))))))
def f__law_mix : MF := mDef 4 b__law_mix
def b__law_next : MS := (mSeq (mAsg (mBin ixD (mBin addD (mBin ixD (mV 0) (mC (.int 1))) (mLstF (mCons (mC (.int 0)) mNil))) (mBin modD (mBin ixD (mV 0) (mC (.int 2))) (mBlt max2F (mCons (mC (.int 1)) (mCons (mBlt lenF (mCons (mBin ixD (mV 0) (mC (.int 1))) mNil)) mNil))))) (gN 2))
  (mSeq (mIfS (mTb (mBin geM (mV 2) (mBin powD (mC (.int 10)) (mC (.int 18))))) (mSeq (mAsg (mBin divD (mV 2) (mV 1)) (gIx (mBin ixD (mV 0) (mC (.int 1))) (mBin modD (mBin ixD (mV 0) (mC (.int 2))) (mBlt lenF (mCons (mBin ixD (mV 0) (mC (.int 1))) mNil)))))
  (mRet (mBin modD (mV 2) (mV 1)))) mNext)
  (mSeq (mAsg (mBin modD (mBin addD (mBin addD (mBin mulM (mBin ixD (mV 0) (mC (.int 0))) (mC (.int 48271))) (mBin mulM (mV 2) (mC (.int 69621)))) (mC (.int 11))) (mC (.int 2147483647))) (gIx (mV 0) (mC (.int 0))))
  (mSeq (mAsg (mBin addD (mBin ixD (mV 0) (mC (.int 2))) (mC (.int 1))) (gIx (mV 0) (mC (.int 2))))
  (mRet (mBin modD (mBin divD (mBin ixD (mV 0) (mC (.int 0))) (mC (.int 7))) (mV 1)))))))
def f__law_next : MF := mDef 3 b__law_next
def l__law_picture_1 : MS := (mWipe [9] (mSeq (mIfS (mTb (mBin gtM (mCall (clean f__law_next) [] (mCons (mV 0) (mCons (mC (.int 2)) mNil))) (mC (.int 0)))) (mAsg (mBin ixD (mC (.str [46, 97, 98, 99, 100, 101, 102])) (mCall (clean f__law_next) [] (mCons (mV 0) (mCons (mBin addD (mV 2) (mC (.int 1))) mNil)))) (gN 8)) mNext)
  (mAsg (mBin addD (mV 7) (mV 8)) (gN 7))))
def l__law_picture_2 : MS := (mWipe [6, 7, 8, 9] (mSeq (mAsg (mTup (mCons (mC (.str [])) (mCons (mC (.str [46])) mNil))) (gTp 2 (gsCons (gN 7) (gsCons (gN 8) gsNil))))
  (mSeq (mWipe [8, 9] (mFor (mRng rng1 (mCons (mV 4) mNil)) (gN 9) l__law_picture_1))
  (mExp (mApp (mV 5) (mV 7))))))
def b__law_picture : MS := (mSeq (mPar 3 4 (mCons (mBin addD (mC (.int 1)) (mCall (clean f__law_next) [] (mCons (mV 0) (mCons (mV 1) mNil)))) (mCons (mBin addD (mC (.int 1)) (mCall (clean f__law_next) [] (mCons (mV 0) (mCons (mV 1) mNil)))) mNil)))
  (mSeq (mAsg (mLstM mNil) (gN 5))
  (mSeq (mWipe [6, 7, 8, 9] (mFor (mRng rng1 (mCons (mV 3) mNil)) (gN 6) l__law_picture_2))
  (mRet (mBlt tupF (mCons (mV 5) mNil))))))
def f__law_picture : MF := mDef 10 b__law_picture
def b_drawn_in : MS := (mRet (mBin divD (mBin mulM (mBin addD (mBin mulM (mV 0) (mC (.int 100))) (mBin mulM (mC (.int 2)) (mV 1))) (mV 2)) (mBin mulM (mC (.int 2)) (mC (.int 100)))))
def f_drawn_in : MF := mDef 3 b_drawn_in
def b_need_count : MS := (mIfS (mNot (mTb (mChain leM leM (mV 1) (mV 0) (mV 2)))) mErrS mNext)
def f_need_count : MF := mDef 3 b_need_count
def l_need_picture_1 : MS := (mWipe [1, 2] (mSeq (mIfS (mOr (mNot (mTb (mChain leM leM (mC (.int 1)) (mBlt lenF (mCons (mV 2) mNil)) (mC (.int 8))))) (mTb (mBin neM (mBlt lenF (mCons (mV 2) mNil)) (mBlt lenF (mCons (mBin ixD (mV 0) (mC (.int 0))) mNil))))) mErrS mNext)
  (mIfS (mNot (mT (mBlt allF (mCons (mLc [3] (gN 3) mYes (mOrV (mBin eqM (mV 3) (mC (.str [46]))) (mBin inM (mV 3) (mC (.str [97, 98, 99, 100, 101, 102])))) (mItS (mV 2))) mNil)))) mErrS mNext)))
def b_need_picture : MS := (mSeq (mIfS (mNot (mTb (mChain leM leM (mC (.int 1)) (mBlt lenF (mCons (mV 0) mNil)) (mC (.int 8))))) mErrS mNext)
  (mWipe [1, 2] (mFor (mEnT (mCons (mV 0) mNil)) (gTp 2 (gsCons (gN 1) (gsCons (gN 2) gsNil))) l_need_picture_1)))
def f_need_picture : MF := mDef 4 b_need_picture
def l_runs_of_1 : MS := (mWipe [5] (mIfS (mOr (mTb (mBin eqM (mV 5) (mBlt lenF (mCons (mV 3) mNil)))) (mTb (mBin neM (mBin ixD (mV 3) (mV 5)) (mBin ixD (mV 3) (mV 4))))) (mSeq (mIfS (mTb (mBin neM (mBin ixD (mV 3) (mV 4)) (mC (.str [46])))) (mExp (mApp (mV 1) (mTup (mCons (mV 2) (mCons (mV 4) (mCons (mV 5) (mCons (mBin ixD (mV 3) (mV 4)) mNil))))))) mNext)
  (mAsg (mV 5) (gN 4))) mNext))
def l_runs_of_2 : MS := (mWipe [2, 3, 4, 5] (mSeq (mAsg (mC (.int 0)) (gN 4))
  (mWipe [4, 5] (mFor (mRng rng2 (mCons (mC (.int 1)) (mCons (mBin addD (mBlt lenF (mCons (mV 3) mNil)) (mC (.int 1))) mNil))) (gN 5) l_runs_of_1))))
def b_runs_of : MS := (mSeq (mAsg (mLstM mNil) (gN 1))
  (mSeq (mWipe [2, 3, 4, 5] (mFor (mEnT (mCons (mV 0) mNil)) (gTp 2 (gsCons (gN 2) (gsCons (gN 3) gsNil))) l_runs_of_2))
  (mRet (mV 1))))
def f_runs_of : MF := mDef 6 b_runs_of
def l_stitches_of_1 : MS := (mSeq (mExp (mApp (mV 2) (mTup (mCons (mV 3) (mCons (mV 4) (mCons (mBin addD (mV 4) (mV 1)) (mCons (mV 6) mNil)))))))
  (mAug 4 iaddD (mV 1)))
def l_stitches_of_2 : MS := (mWipe [3, 4, 5, 6] (mSeq (mWhile (mTb (mBin gtM (mBin subD (mV 5) (mV 4)) (mV 1))) l_stitches_of_1 1000)
  (mExp (mApp (mV 2) (mTup (mCons (mV 3) (mCons (mV 4) (mCons (mV 5) (mCons (mV 6) mNil)))))))))
def b_stitches_of : MS := (mSeq (mAsg (mLstM mNil) (gN 2))
  (mSeq (mWipe [3, 4, 5, 6] (mFor (mItL (mCall (clean f_runs_of) [] (mCons (mV 0) mNil))) (gTp 4 (gsCons (gN 3) (gsCons (gN 4) (gsCons (gN 5) (gsCons (gN 6) gsNil))))) l_stitches_of_2))
  (mRet (mV 2))))
def f_stitches_of : MF := mDef 7 b_stitches_of
def l_gaps_1 : MS := (mWipe [4, 5, 6, 7, 8] (mSeq (mAsg (mCall (clean f_drawn_in) [] (mCons (mBin subD (mV 6) (mV 5)) (mCons (mC (.int 0)) (mCons (mV 1) mNil)))) (gN 8))
  (mIfS (mTb (mBin gtM (mV 8) (mC (.int 0)))) (mSeq (mExp (mApp (mV 3) (mTup (mCons (mV 4) (mCons (mBin mulM (mV 5) (mC (.int 100))) (mCons (mBin addD (mBin mulM (mV 5) (mC (.int 100))) (mV 8)) mNil))))))
  (mExp (mApp (mV 3) (mTup (mCons (mV 4) (mCons (mBin subD (mBin mulM (mV 6) (mC (.int 100))) (mV 8)) (mCons (mBin mulM (mV 6) (mC (.int 100))) mNil))))))) mNext)))
def b_gaps : MS := (mSeq (mExp (mCall (clean f_need_picture) [] (mCons (mV 0) mNil)))
  (mSeq (mExp (mCall (clean f_need_count) [] (mCons (mV 1) (mCons (mC (.int 0)) (mCons (mC (.int 60)) mNil)))))
  (mSeq (mExp (mCall (clean f_need_count) [] (mCons (mV 2) (mCons (mC (.int 1)) (mCons (mC (.int 8)) mNil)))))
  (mSeq (mAsg (mLstM mNil) (gN 3))
  (mSeq (mWipe [4, 5, 6, 7, 8] (mFor (mItL (mCall (clean f_stitches_of) [] (mCons (mV 0) (mCons (mV 2) mNil)))) (gTp 4 (gsCons (gN 4) (gsCons (gN 5) (gsCons (gN 6) (gsCons (gN 7) gsNil))))) l_gaps_1))
  (mRet (mV 3)))))))
def f_gaps : MF := mDef 9 b_gaps
def l_made_good_1 : MS := (mAsg (mCall (clean f_drawn_in) [] (mCons (mBin subD (mV 6) (mV 5)) (mCons (mV 8) (mCons (mV 1) mNil)))) (gN 8))
def l_made_good_2 : MS := (mWipe [4, 5, 6, 7, 8] (mSeq (mAsg (mC (.int 0)) (gN 8))
  (mSeq (mWhile (mTb (mBin gtM (mCall (clean f_drawn_in) [] (mCons (mBin subD (mV 6) (mV 5)) (mCons (mV 8) (mCons (mV 1) mNil)))) (mV 8))) l_made_good_1 1000)
  (mExp (mApp (mV 3) (mV 8))))))
def b_made_good : MS := (mSeq (mExp (mCall (clean f_need_picture) [] (mCons (mV 0) mNil)))
  (mSeq (mExp (mCall (clean f_need_count) [] (mCons (mV 1) (mCons (mC (.int 0)) (mCons (mC (.int 60)) mNil)))))
  (mSeq (mExp (mCall (clean f_need_count) [] (mCons (mV 2) (mCons (mC (.int 1)) (mCons (mC (.int 8)) mNil)))))
  (mSeq (mAsg (mLstM mNil) (gN 3))
  (mSeq (mWipe [4, 5, 6, 7, 8] (mFor (mItL (mCall (clean f_stitches_of) [] (mCons (mV 0) (mCons (mV 2) mNil)))) (gTp 4 (gsCons (gN 4) (gsCons (gN 5) (gsCons (gN 6) (gsCons (gN 7) gsNil))))) l_made_good_2))
  (mRet (mV 3)))))))
def f_made_good : MF := mDef 9 b_made_good
def b_stitches : MS := (mSeq (mExp (mCall (clean f_need_picture) [] (mCons (mV 0) mNil)))
  (mSeq (mExp (mCall (clean f_need_count) [] (mCons (mV 1) (mCons (mC (.int 1)) (mCons (mC (.int 8)) mNil)))))
  (mRet (mCall (clean f_stitches_of) [] (mCons (mV 0) (mCons (mV 1) mNil))))))
def f_stitches : MF := mDef 2 b_stitches
def l_law_1 : MS := (mWipe [8, 9] (mSeq (mAsg (mBin subD (mBin ixD (mBin ixD (mV 6) (mV 8)) (mC (.int 2))) (mBin ixD (mBin ixD (mV 6) (mV 8)) (mC (.int 1)))) (gN 9))
  (mSeq (mIfS (mTb (mBin gtM (mBin divD (mBin mulM (mBin addD (mBin mulM (mC (.int 100)) (mV 9)) (mBin mulM (mC (.int 2)) (mBin ixD (mV 7) (mV 8)))) (mV 5)) (mC (.int 200))) (mBin ixD (mV 7) (mV 8)))) (mRet (mC (.bl false))) mNext)
  (mIfS (mAnd (mTb (mBin gtM (mBin ixD (mV 7) (mV 8)) (mC (.int 0)))) (mTb (mBin leM (mBin divD (mBin mulM (mBin subD (mBin addD (mBin mulM (mC (.int 100)) (mV 9)) (mBin mulM (mC (.int 2)) (mBin ixD (mV 7) (mV 8)))) (mC (.int 2))) (mV 5)) (mC (.int 200))) (mBin subD (mBin ixD (mV 7) (mV 8)) (mC (.int 1)))))) (mRet (mC (.bl false))) mNext))))
def l_law_2 : MS := (mWipe [14, 15, 16] (mSeq (mIfS (mNot (mChain3 leM ltM leM (mC (.int 0)) (mV 15) (mV 16) (mBin mulM (mC (.int 100)) (mBlt lenF (mCons (mBin ixD (mV 3) (mC (.int 0))) mNil))))) (mRet (mC (.bl false))) mNext)
  (mIfS (mTb (mBin eqM (mBin ixD (mBin ixD (mV 3) (mV 14)) (mBin divD (mV 15) (mC (.int 100)))) (mC (.str [46])))) (mRet (mC (.bl false))) mNext)))
def l_law_3 : MS := (mWipe [2, 3, 4, 5, 6, 7, 8, 9, 10, 11, 12, 13, 14, 15, 16] (mSeq (mPar3 3 4 5 (mCons (mCall (clean f__law_picture) [] (mCons (mV 1) (mCons (mC (.int 8)) (mCons (mC (.int 3)) mNil)))) (mCons (mBin addD (mC (.int 1)) (mCall (clean f__law_next) [] (mCons (mV 1) (mCons (mC (.int 8)) mNil)))) (mCons (mCall (clean f__law_next) [] (mCons (mV 1) (mCons (mC (.int 61)) mNil))) mNil))))
  (mSeq (mAsg (mTup (mCons (mCallK (clean f_stitches) gkb_stitches_1_long (mCons (mV 3) mNil) (mCons (mV 4) mNil)) (mCons (mCallK (clean f_made_good) gkb_made_good_2_long (mCons (mV 3) (mCons (mV 5) mNil)) (mCons (mV 4) mNil)) mNil))) (gTp 2 (gsCons (gN 6) (gsCons (gN 7) gsNil))))
  (mSeq (mIfS (mOr (mTb (mBin neM (mBlt lenF (mCons (mV 6) mNil)) (mBlt lenF (mCons (mV 7) mNil)))) (mTb (mBin neM (mCallK (clean f_gaps) gkb_gaps_2_long (mCons (mV 3) (mCons (mC (.int 0)) mNil)) (mCons (mV 4) mNil)) (mLstF mNil)))) (mRet (mC (.bl false))) mNext)
  (mSeq (mIfS (mTb (mBin neM (mCallK (clean f_made_good) gkb_made_good_2_long (mCons (mV 3) (mCons (mC (.int 0)) mNil)) (mCons (mV 4) mNil)) (mBin mulM (mLstF (mCons (mC (.int 0)) mNil)) (mBlt lenF (mCons (mV 6) mNil))))) (mRet (mC (.bl false))) mNext)
  (mSeq (mWipe [8, 9] (mFor (mRng rng1 (mCons (mBlt lenF (mCons (mV 6) mNil)) mNil)) (gN 8) l_law_1))
  (mSeq (mAsg (mBlt min2F (mCons (mC (.int 60)) (mCons (mBin addD (mV 5) (mCall (clean f__law_next) [] (mCons (mV 1) (mCons (mC (.int 10)) mNil)))) mNil))) (gN 10))
  (mSeq (mAsg (mLc [14, 15, 16] (gTp 3 (gsCons (gN 14) (gsCons (gN 15) (gsCons (gN 16) gsNil)))) mYes (mBin subD (mV 16) (mV 15)) (mItL (mCallK (clean f_gaps) gkb_gaps_2_long (mCons (mV 3) (mCons (mV 5) mNil)) (mCons (mV 4) mNil)))) (gN 11))
  (mSeq (mAsg (mLc [14, 15, 16] (gTp 3 (gsCons (gN 14) (gsCons (gN 15) (gsCons (gN 16) gsNil)))) mYes (mBin subD (mV 16) (mV 15)) (mItL (mCallK (clean f_gaps) gkb_gaps_2_long (mCons (mV 3) (mCons (mV 10) mNil)) (mCons (mV 4) mNil)))) (gN 12))
  (mSeq (mAsg (mCallK (clean f_made_good) gkb_made_good_2_long (mCons (mV 3) (mCons (mV 10) mNil)) (mCons (mV 4) mNil)) (gN 13))
  (mSeq (mWipe [8] (mIfS (mOr (mTb (mBin ltM (mBlt sumF (mCons (mV 12) mNil)) (mBlt sumF (mCons (mV 11) mNil)))) (mTb (mBin neM (mLc [8] (gN 8) (mTb (mBin ltM (mBin ixD (mV 13) (mV 8)) (mBin ixD (mV 7) (mV 8)))) (mV 8) (mRng rng1 (mCons (mBlt lenF (mCons (mV 7) mNil)) mNil))) (mLstF mNil)))) (mRet (mC (.bl false))) mNext))
  (mWipe [14, 15, 16] (mFor (mItL (mCallK (clean f_gaps) gkb_gaps_2_long (mCons (mV 3) (mCons (mV 5) mNil)) (mCons (mV 4) mNil))) (gTp 3 (gsCons (gN 14) (gsCons (gN 15) (gsCons (gN 16) gsNil)))) l_law_2)))))))))))))
def b_law : MS := (mSeq (mAsg (mCall f__law_mix [] (mCons (mV 0) (mCons (mC (.int 109)) mNil))) (gN 1))
  (mSeq (mWipe [2, 3, 4, 5, 6, 7, 8, 9, 10, 11, 12, 13, 14, 15, 16] (mFor (mRng rng1 (mCons (mC (.int 4)) mNil)) (gN 2) l_law_3))
  (mRet (mC (.bl true)))))
def f_law : MF := mDef 17 b_law

end G

namespace G
open PySem PySem.Spec L2 NC
open PyProof.Rows hiding St
/-- what a law draws from -/
structure Sd where
  xs : List Int
  m : Int
  c : Int
  ok : xs.length ≤ 63
/-- the heap of a law's drawing: the script's rest, the state; what stands behind -/
def mkH (xs : List Int) (m c : Int) (r : Hs) : Hs := .lst (xs.map .int) :: .lst [.int m, .ref 0, .int c] :: r
def mkS (S : Sd) (r : Hs) : Hs := mkH S.xs S.m S.c r
def cellP (S : Sd) : Int := if 0 < S.xs.length then S.xs.getD (S.c % (S.xs.length : Int)).toNat 0 else 0
def nextV (S : Sd) (n : Int) : Int := if 1000000000000000000 ≤ cellP S then cellP S % n else (S.m * 48271 + cellP S * 69621 + 11) % 2147483647 / 7 % n
def nextS (S : Sd) (n : Int) : Sd := if 1000000000000000000 ≤ cellP S then ⟨S.xs.set (S.c % (S.xs.length : Int)).toNat (cellP S / n), S.m, S.c, by rw [List.length_set]; exact S.ok⟩ else ⟨S.xs, (S.m * 48271 + cellP S * 69621 + 11) % 2147483647, S.c + 1, S.ok⟩
theorem nextV_nn {S : Sd} {n : Int} (h : 0 < n) : 0 ≤ nextV S n := by
  unfold nextV
  split <;> exact Int.emod_nonneg _ (by omega)
theorem nextV_lt {S : Sd} {n : Int} (h : 0 < n) : nextV S n < n := by
  unfold nextV
  split <;> exact Int.emod_lt_of_pos _ h
section
variable {xs : List Int} {m c v : Int} {r : Hs} {fl i : Nat} {S : Sd}
@[simp] theorem H_ix0 : ixD (mkH xs m c r) (.ref 1) (.int 0) = some (.int m) := rfl
@[simp] theorem H_ix1 : ixD (mkH xs m c r) (.ref 1) (.int 1) = some (.ref 0) := rfl
@[simp] theorem H_ix2 : ixD (mkH xs m c r) (.ref 1) (.int 2) = some (.int c) := rfl
@[simp] theorem H_len : lenF (mkH xs m c r) [.ref 0] = some (.int xs.length) := by rw [len_at (xs := xs.map .int) rfl]; simp
@[simp] theorem H_add : addD (mkH xs m c r) (.ref 0) (.lst [.int 0]) = if xs.length + 1 ≤ 16777216 then some (.lst (xs.map .int ++ [.int 0])) else none := by
  rw [addD_lst (x := xs.map .int) (y := [.int 0]) rfl rfl, List.length_map]
  rfl
@[simp] theorem H_ls0 : lsAt (mkH xs m c r) (.ref 0) = some (0, xs.map .int) := rfl
@[simp] theorem H_ls1 : lsAt (mkH xs m c r) (.ref 1) = some (1, [.int m, .ref 0, .int c]) := rfl
theorem map_set_int (xs : List Int) (i : Nat) (v : Int) : (xs.map D.int).set i (.int v) = (xs.set i v).map .int := by
  rw [List.map_set]
@[simp] theorem H_set0 {i : Nat} : (mkH xs m c r).set 0 (.lst ((xs.map D.int).set i (.int v))) = mkH (xs.set i v) m c r := by rw [map_set_int]; rfl
@[simp] theorem H_setm : (mkH xs m c r).set 1 (.lst [.int v, .ref 0, .int c]) = mkH xs v c r := rfl
@[simp] theorem H_setc : (mkH xs m c r).set 1 (.lst [.int m, .ref 0, .int v]) = mkH xs m v r := rfl
@[simp] theorem H_length : (mkS S r).length = r.length + 2 := rfl
end
theorem cell_is (S : Sd) : atI (S.xs.map D.int ++ [D.int 0]) (S.c % (if (S.xs.length : Int) > 1 then (S.xs.length : Int) else 1)) = some (.int (cellP S)) ∧ (cellP S ≠ 0 → 0 < S.xs.length) := by
  obtain ⟨xs, m, c, ok⟩ := S
  simp only
  unfold cellP
  simp only
  by_cases h1 : (xs.length : Int) > 1
  · rw [if_pos h1, if_pos (by omega)]
    have a := Int.emod_nonneg c (show (xs.length : Int) ≠ 0 by omega)
    have b := Int.emod_lt_of_pos c (show 0 < (xs.length : Int) by omega)
    refine ⟨?_, fun _ => by omega⟩
    rw [atI_ok a (by simp; omega)]
    rw [List.getElem_append_left (by simp; omega)]
    simp
    rw [List.getElem?_eq_getElem (by omega)]
    rfl
  · rw [if_neg h1]
    have e : c % 1 = 0 := by omega
    rw [e]
    cases xs with
    | nil => exact ⟨rfl, fun h => absurd rfl h⟩
    | cons x xs =>
      have : xs = [] := by
        cases xs with
        | nil => rfl
        | cons y ys => simp at h1; omega
      subst this
      refine ⟨?_, fun _ => by simp⟩
      rw [atI_ok (by omega) (by simp)]
      simp
theorem next_run (S : Sd) (n : Int) (r : Hs) (fl : Nat) (hn : 0 < n) (hn2 : n < 1073741824) : f__law_next [.ref 1, .int n] fl (mkS S r) = .ok (.int (nextV S n)) (mkS (nextS S n) r) := by
  obtain ⟨hc, hpos⟩ := cell_is S
  have eV : nextV S n = if 1000000000000000000 ≤ cellP S then cellP S % n else (S.m * 48271 + cellP S * 69621 + 11) % 2147483647 / 7 % n := rfl
  have eS : mkS (nextS S n) r = if 1000000000000000000 ≤ cellP S then mkH (S.xs.set (S.c % (S.xs.length : Int)).toNat (cellP S / n)) S.m S.c r else mkH S.xs ((S.m * 48271 + cellP S * 69621 + 11) % 2147483647) (S.c + 1) r := by
    unfold nextS
    split <;> rfl
  rw [eV, eS]
  show f__law_next _ _ (mkH S.xs S.m S.c r) = _
  obtain ⟨xs, m, c, hl⟩ := S
  simp only at hc hpos ⊢
  generalize cellP _ = cell at hc hpos ⊢
  have hl2 : xs.length + 1 ≤ 16777216 := by omega
  have hm : 0 < (if (xs.length : Int) > 1 then (xs.length : Int) else 1) := by split <;> omega
  by_cases big : (1000000000000000000 : Int) ≤ cell
  · have hp := hpos (by omega)
    have a := Int.emod_nonneg c (show (xs.length : Int) ≠ 0 by omega)
    have b := Int.emod_lt_of_pos c (show 0 < (xs.length : Int) by omega)
    have hp2 : 0 < (xs.length : Int) := by omega
    rw [if_pos big, if_pos big]
    simp [f__law_next, b__law_next, begS, hl2, hm, hc, big, hn, hn2, hp]
    rw [ixN_ok a b]
    simp [hn]
  · rw [if_neg big, if_neg big]
    simp [f__law_next, b__law_next, begS, hl2, hm, hc, big, hn]
/-- a number is drawn -/
@[simp] theorem next_eq (S : Sd) (n : Int) (r : Hs) (fl : Nat) (hn : 0 < n) (hn2 : n < 1073741824) : clean f__law_next [.ref 1, .int n] fl (mkS S r) = .ok (.int (nextV S n)) (mkS (nextS S n) r) := by
  rw [clean_ok (next_run S n r _ hn hn2) rfl, H_length, ← H_length (S := nextS S n), List.take_length]
def mixP (ns : List Int) (seed : Int) : Int := ns.foldl (fun m z => (m * 48271 + z % 2147483629 + 1) % 2147483647) seed
theorem mix_eq (ns : List Int) (seed : Int) (fl : Nat) : f__law_mix [.scr ns, .int seed] fl [] = .ok (.ref 1) [.lst (ns.map .int), .lst [.int (mixP ns seed), .ref 0, .int 0]] := by
  obtain ⟨e, _⟩ := for_fold (g := gN 3) (body := l__law_mix_1) (fl := fl) D.int (fun (m : Int) z => (m * 48271 + z % 2147483629 + 1) % 2147483647) (fun m => [some (.scr ns), some (.int seed), some (.int m), none]) (fun _ => []) (fun _ _ => True) ns 0 seed trivial (fun i hi a _ => ⟨by simp [turn, l__law_mix_1], trivial⟩)
  simp only [f__law_mix, b__law_mix, x_Def, x_Seq, x_Asg, x_V, begS]
  simp [e, listF, mixP]
/-- what a law begins with -/
def sd0 (ns : List Int) (h : ns.length ≤ 63) (seed : Int) : Sd := ⟨ns, mixP ns seed, 0, h⟩
theorem mix_sd (ns : List Int) (h : ns.length ≤ 63) (seed : Int) (fl : Nat) : f__law_mix [.scr ns, .int seed] fl [] = .ok (.ref 1) (mkS (sd0 ns h seed) []) := mix_eq ns seed fl

section
variable {S : Sd} {r : Hs} {o : Ob} {acc : List D}
@[simp] theorem H_app : mkS S r ++ [o] = mkS S (r ++ [o]) := rfl
@[simp] theorem H_lsr : lsAt (mkS S (r ++ [.lst acc])) (.ref (r.length + 2)) = some (r.length + 2, acc) := by
  refine lsAt_of ?_
  show (Ob.lst _ :: Ob.lst _ :: (r ++ [Ob.lst acc]))[r.length + 2]? = _
  simp
@[simp] theorem H_setr : (mkS S (r ++ [.lst acc])).set (r.length + 2) o = mkS S (r ++ [o]) := by
  show (Ob.lst _ :: Ob.lst _ :: (r ++ [Ob.lst acc])).set (r.length + 2) o = _
  simp [mkS, mkH]
theorem H_take {q : Hs} : (mkS S (r ++ q)).take (r.length + 2) = mkS S r := by
  show (Ob.lst _ :: Ob.lst _ :: (r ++ q)).take (r.length + 2) = _
  simp [mkS, mkH]
@[simp] theorem H_tupr : tupF (mkS S (r ++ [.lst acc])) [.ref (r.length + 2)] = some (.tup acc) := by
  have e : vw (mkS S (r ++ [.lst acc])) (.ref (r.length + 2)) = .lst acc := by
    refine vw_at ?_
    show (Ob.lst _ :: Ob.lst _ :: (r ++ [Ob.lst acc]))[r.length + 2]? = _
    simp
  unfold tupF
  simp only
  rw [e]
end
/-- the signs that a picture of so many colours may bear -/
def goodC (k : Int) (ch : Nat) : Prop := ch ∈ ([46, 97, 98, 99, 100, 101, 102] : List Nat).take (k.toNat + 1)
def signP (v : Int) : Nat := ([46, 97, 98, 99, 100, 101, 102] : List Nat).getD v.toNat 46
theorem sign_at {k v : Int} (h1 : k ≤ 6) (v0 : 0 ≤ v) (v1 : v < k + 1) : atI ([46, 97, 98, 99, 100, 101, 102] : List Nat) v = some (signP v) ∧ goodC k (signP v) := by
  have hv : v < (([46, 97, 98, 99, 100, 101, 102] : List Nat).length : Int) := by simp; omega
  have hv' : v.toNat < ([46, 97, 98, 99, 100, 101, 102] : List Nat).length := by simp; omega
  have e : signP v = ([46, 97, 98, 99, 100, 101, 102] : List Nat)[v.toNat] := by unfold signP; simp only [List.getD_eq_getElem?_getD]; rw [List.getElem?_eq_getElem hv']; rfl
  refine ⟨by rw [e]; exact atI_ok v0 hv, ?_⟩
  unfold goodC
  rw [List.mem_take_iff_getElem, e]
  exact ⟨v.toNat, by simp; omega, rfl⟩
theorem good46 {k : Int} : goodC k 46 := by
  unfold goodC
  simp
def goodRow (k : Int) (wide : Nat) (row : List Nat) : Prop := row.length = wide ∧ ∀ ch ∈ row, goodC k ch
/-- a row of so many signs: the drawing behind it, its signs, the last sign -/
def rowP (S : Sd) (k : Int) : Nat → Sd × List Nat × Nat
  | 0 => (S, [], 46)
  | j + 1 =>
    let q := rowP S k j
    if 0 < nextV q.1 2 then
      let ch := signP (nextV (nextS q.1 2) (k + 1))
      (nextS (nextS q.1 2) (k + 1), q.2.1 ++ [ch], ch)
    else (nextS q.1 2, q.2.1 ++ [q.2.2], q.2.2)
def rowsP (S : Sd) (k : Int) (wide : Nat) : Nat → Sd × List (List Nat)
  | 0 => (S, [])
  | j + 1 =>
    let q := rowsP S k wide j
    let p := rowP q.1 k wide
    (p.1, q.2 ++ [p.2.1])
def picHi (S : Sd) (most : Int) : Nat := (1 + nextV S most).toNat
def picW (S : Sd) (most : Int) : Nat := (1 + nextV (nextS S most) most).toNat
def picR (S : Sd) (most k : Int) : List (List Nat) := (rowsP (nextS (nextS S most) most) k (picW S most) (picHi S most)).2
def picS (S : Sd) (most k : Int) : Sd := (rowsP (nextS (nextS S most) most) k (picW S most) (picHi S most)).1
theorem rowP_good {S : Sd} {k : Int} (k0 : 0 ≤ k) (k6 : k ≤ 6) : ∀ j, (rowP S k j).2.1.length = j ∧ (∀ ch ∈ (rowP S k j).2.1, goodC k ch) ∧ goodC k (rowP S k j).2.2 := by
  intro j
  induction j with
  | zero => exact ⟨rfl, by simp [rowP], good46⟩
  | succ j ih =>
    obtain ⟨a, b, c⟩ := ih
    unfold rowP
    simp only
    split
    · have q := (sign_at k6 (nextV_nn (S := nextS (rowP S k j).1 2) (n := k + 1) (by omega)) (nextV_lt (by omega))).2
      refine ⟨by simp [a], fun ch h => ?_, q⟩
      rcases List.mem_append.mp h with z | z
      · exact b ch z
      · simp at z; rw [z]; exact q
    · refine ⟨by simp [a], fun ch h => ?_, c⟩
      rcases List.mem_append.mp h with z | z
      · exact b ch z
      · simp at z; rw [z]; exact c
theorem rowsP_good {S : Sd} {k : Int} {wide : Nat} (k0 : 0 ≤ k) (k6 : k ≤ 6) : ∀ j, (rowsP S k wide j).2.length = j ∧ ∀ row ∈ (rowsP S k wide j).2, goodRow k wide row := by
  intro j
  induction j with
  | zero => exact ⟨rfl, by simp [rowsP]⟩
  | succ j ih =>
    obtain ⟨a, b⟩ := ih
    unfold rowsP
    simp only
    refine ⟨by simp [a], fun row h => ?_⟩
    rcases List.mem_append.mp h with z | z
    · exact b row z
    · simp at z
      rw [z]
      obtain ⟨p, q, _⟩ := rowP_good (S := (rowsP S k wide j).1) k0 k6 wide
      exact ⟨p, q⟩
theorem row_eq {most k v1 v2 : Int} {S : Sd} {r : Hs} {acc : List D} {kk : D} {n : Nat} (hn : n ≤ 8) (k0 : 0 ≤ k) (k6 : k ≤ 6) : mForL (gN 9) l__law_picture_1 (rngL 0 n) [some (.ref 1), some (.int most), some (.int k), some (.int v1), some (.int v2), some (.ref (r.length + 2)), some kk, some (.str []), some (.str [46]), none] (r.length + 2) (mkS S (r ++ [.lst acc])) =
    .nx [some (.ref 1), some (.int most), some (.int k), some (.int v1), some (.int v2), some (.ref (r.length + 2)), some kk, some (.str (rowP S k n).2.1), some (.str [(rowP S k n).2.2]), none] (mkS (rowP S k n).1 (r ++ [.lst acc])) := by
  refine for_rng_eq (fun j => [some (.ref 1), some (.int most), some (.int k), some (.int v1), some (.int v2), some (.ref (r.length + 2)), some kk, some (.str (rowP S k j).2.1), some (.str [(rowP S k j).2.2]), none]) (fun j => mkS (rowP S k j).1 (r ++ [.lst acc])) fun j hj => ?_
  have hl := (rowP_good (S := S) k0 k6 j).1
  have h1 : (rowP S k j).2.1.length + 1 ≤ 16777216 := by omega
  have hk : 0 < k + 1 := by omega
  have hk2 : k + 1 < 1073741824 := by omega
  by_cases hw : 0 < nextV (rowP S k j).1 2
  · have q := (sign_at k6 (nextV_nn (S := nextS (rowP S k j).1 2) (n := k + 1) (by omega)) (nextV_lt (by omega))).1
    simp only [rowP]
    rw [if_pos hw]
    simp [turn, l__law_picture_1, hw, hk, hk2, q, h1]
  · simp only [rowP]
    rw [if_neg hw]
    simp [turn, l__law_picture_1, hw, h1]
theorem rows_eq {most k v1 : Int} {S : Sd} {r : Hs} {w n : Nat} (hn : n ≤ 8) (hw : w ≤ 8) (k0 : 0 ≤ k) (k6 : k ≤ 6) : mForL (gN 6) l__law_picture_2 (rngL 0 n) [some (.ref 1), some (.int most), some (.int k), some (.int v1), some (.int (w : Int)), some (.ref (r.length + 2)), none, none, none, none] (r.length + 2) (mkS S (r ++ [.lst []])) =
    .nx [some (.ref 1), some (.int most), some (.int k), some (.int v1), some (.int (w : Int)), some (.ref (r.length + 2)), none, none, none, none] (mkS (rowsP S k w n).1 (r ++ [.lst ((rowsP S k w n).2.map .str)])) := by
  refine for_rng_eq (fun j => [some (.ref 1), some (.int most), some (.int k), some (.int v1), some (.int (w : Int)), some (.ref (r.length + 2)), none, none, none, none]) (fun j => mkS (rowsP S k w j).1 (r ++ [.lst ((rowsP S k w j).2.map .str)])) fun j hj => ?_
  have hl := (rowsP_good (S := S) (wide := w) k0 k6 j).1
  have h1 : (rowsP S k w j).2.length < 16777216 := by omega
  have hin : inI (w : Int) = true := inI_of (by omega)
  have e := row_eq (most := most) (v1 := v1) (v2 := (w : Int)) (S := (rowsP S k w j).1) (r := r) (acc := (rowsP S k w j).2.map .str) (kk := .int (0 + j)) hw k0 k6
  simp only [rowsP]
  simp at e
  simp [turn, l__law_picture_2, hin, e, h1]
@[simp] theorem picture_eq (S : Sd) (most k : Int) (r : Hs) (fl : Nat) (h1 : 1 ≤ most) (h2 : most ≤ 8) (k0 : 0 ≤ k) (k6 : k ≤ 6) :
    clean f__law_picture [.ref 1, .int most, .int k] fl (mkS S r) = .ok (.tup ((picR S most k).map .str)) (mkS (picS S most k) r) := by
  have m0 : 0 < most := by omega
  have m1 : most < 1073741824 := by omega
  have a0 := nextV_nn (S := S) m0
  have a1 := nextV_lt (S := S) m0
  have b0 := nextV_nn (S := nextS S most) m0
  have b1 := nextV_lt (S := nextS S most) m0
  have ew : 1 + nextV (nextS S most) most = (picW S most : Int) := by unfold picW; omega
  have hin : inI (1 + nextV S most) = true := inI_of (by omega)
  have e := rows_eq (most := most) (k := k) (v1 := 1 + nextV S most) (S := nextS (nextS S most) most) (r := r) (w := picW S most) (n := picHi S most) (by unfold picHi; omega) (by omega) k0 k6
  have en : (1 + nextV S most).toNat = picHi S most := rfl
  have run : f__law_picture [.ref 1, .int most, .int k] (mkS S r).length (mkS S r) = .ok (.tup ((picR S most k).map .str)) (mkS (picS S most k) (r ++ [.lst ((picR S most k).map .str)])) := by
    rw [H_length]
    simp [f__law_picture, b__law_picture, begS, m0, m1, hin, ew, en, e]
    exact ⟨rfl, rfl⟩
  rw [clean_ok run (frz_pure 63 _ _ _ (by simp [shal, shal_strs]))]
  rw [H_length, H_take]
theorem goodC_sign {k : Int} {ch : Nat} (h : goodC k ch) : ch = 46 ∨ ch ∈ ([97, 98, 99, 100, 101, 102] : List Nat) := by
  unfold goodC at h
  have := List.mem_of_mem_take h
  simpa using this
/-- a picture that may be -/
structure Good (rows : List (List Nat)) (wide : Nat) : Prop where
  r1 : 1 ≤ rows.length
  r8 : rows.length ≤ 8
  w1 : 1 ≤ wide
  w8 : wide ≤ 8
  len : ∀ row ∈ rows, row.length = wide
  sign : ∀ row ∈ rows, ∀ c ∈ row, c = 46 ∨ c ∈ ([97, 98, 99, 100, 101, 102] : List Nat)
theorem pic_rows {S : Sd} {most k : Int} (k0 : 0 ≤ k) (k6 : k ≤ 6) : (picR S most k).length = picHi S most ∧ ∀ row ∈ picR S most k, goodRow k (picW S most) row := rowsP_good k0 k6 _
theorem pic_hi {S : Sd} {most : Int} (h1 : 1 ≤ most) : 1 ≤ picHi S most ∧ (picHi S most : Int) ≤ most := by
  have a0 := nextV_nn (S := S) (n := most) (by omega)
  have a1 := nextV_lt (S := S) (n := most) (by omega)
  unfold picHi
  omega
theorem pic_w {S : Sd} {most : Int} (h1 : 1 ≤ most) : 1 ≤ picW S most ∧ (picW S most : Int) ≤ most := by
  have a0 := nextV_nn (S := nextS S most) (n := most) (by omega)
  have a1 := nextV_lt (S := nextS S most) (n := most) (by omega)
  unfold picW
  omega
theorem pic_good {S : Sd} {most k : Int} (h1 : 1 ≤ most) (h2 : most ≤ 8) (k0 : 0 ≤ k) (k6 : k ≤ 6) : Good (picR S most k) (picW S most) := by
  obtain ⟨a, b⟩ := pic_rows (S := S) (most := most) k0 k6
  have hi := pic_hi (S := S) h1
  have w := pic_w (S := S) h1
  exact ⟨by omega, by omega, w.1, by omega, fun row h => (b row h).1, fun row h c hc => goodC_sign ((b row h).2 c hc)⟩

@[simp] theorem need_count_eq (n lo hi : Int) (fl : Nat) (h : Hs) (h0 : lo ≤ n) (h1 : n ≤ hi) : clean f_need_count [.int n, .int lo, .int hi] fl h = .ok .non h := by
  refine clean_pure0 ?_ rfl
  simp [f_need_count, b_need_count, begS, h0, h1]
abbrev pic (rows : List (List Nat)) : D := .tup (rows.map .str)
theorem all_trues (row : List Nat) : ((row.map fun c => D.str [c]).filterMap fun _ => some (D.bl true)) = row.map fun _ => .bl true := by
  induction row with
  | nil => rfl
  | cons a b ih => simpa using ih
theorem allF_trues (hh : Hs) (row : List Nat) : allF hh [.lst (row.map fun _ => .bl true)] = some (.bl true) := by
  have q : ∀ l : List Nat, blsO (l.map fun _ => D.bl true) = some (l.map fun _ => true) := by
    intro l
    induction l with
    | nil => rfl
    | cons a b ih => simp [blsO, ih]
  simp [allF, vwL, q]
theorem enumL_len {ds : List D} : (enumL ds).length = ds.length := by simp [enumL]
theorem enumL_at {ds : List D} {i : Nat} (h : i < (enumL ds).length) (h' : i < ds.length) : (enumL ds)[i] = .tup [.int i, ds[i]] := by
  have q := List.getElem?_eq_getElem h
  obtain ⟨x, h1, h2⟩ := enumL_get q
  rw [h2]
  rw [List.getElem?_eq_getElem h'] at h1
  cases h1
  rfl
theorem Good.hd {rows : List (List Nat)} {wide : Nat} (G : Good rows wide) : ∃ row0 rest, rows = row0 :: rest ∧ row0.length = wide := by
  cases e : rows with
  | nil => have := G.r1; rw [e] at this; simp at this
  | cons a b => exact ⟨a, b, rfl, G.len a (by rw [e]; simp)⟩
theorem Good.ix0 {rows : List (List Nat)} {wide : Nat} (G : Good rows wide) : ∃ row0, atI (rows.map D.str) 0 = some (.str row0) ∧ row0.length = wide := by
  obtain ⟨row0, rest, e, l⟩ := G.hd
  exact ⟨row0, by rw [e]; simp, l⟩
@[simp] theorem need_picture_eq {rows : List (List Nat)} {wide : Nat} (G : Good rows wide) (fl : Nat) (h : Hs) : clean f_need_picture [pic rows] fl h = .ok .non h := by
  have hr1 : (1 : Int) ≤ rows.length := by have := G.r1; omega
  have hr8 : (rows.length : Int) ≤ 8 := by have := G.r8; omega
  obtain ⟨row0, hix, l0⟩ := G.ix0
  have hw1 : (1 : Int) ≤ wide := by have := G.w1; omega
  have hw8 : (wide : Int) ≤ 8 := by have := G.w8; omega
  have e := for_list_eq (g := gTp 2 (gsCons (gN 1) (gsCons (gN 2) gsNil))) (body := l_need_picture_1) (fl := h.length) (enumL (rows.map .str)) (fun _ => [some (pic rows), none, none, none]) (fun _ => h) fun i hi => by
    rw [enumL_len] at hi
    have hi' : i < rows.length := by simpa using hi
    rw [enumL_at _ hi]
    have mem : rows[i] ∈ rows := List.getElem_mem hi'
    have lr := G.len _ mem
    obtain ⟨row, hrow⟩ : ∃ row, row = rows[i] := ⟨_, rfl⟩
    have erow : (rows.map D.str)[i] = .str row := by simp [hrow]
    rw [← hrow] at mem lr
    rw [erow]
    have comp : kLc [3] (gN 3) mYes (mOrV (mBin eqM (mV 3) (mC (.str [46]))) (mBin inM (mV 3) (mC (.str [97, 98, 99, 100, 101, 102])))) [some (pic rows), some (.int i), some (.str row), none] (.ok (row.map fun c => .str [c]) h) = .ok (.lst ((row.map fun c => D.str [c]).filterMap fun _ => some (.bl true))) h := by
      refine lc_ok (fun _ => some (.bl true)) (by simp; have := G.w8; omega) ?_ ?_
      · generalize (row.map fun c => D.str [c]) = l
        induction l with
        | nil => rfl
        | cons a b ih => simpa [shalL, shal] using ih
      · intro d hd acc
        simp only [List.mem_map] at hd
        obtain ⟨c, hc, rfl⟩ := hd
        refine ⟨_, rfl, .inr ⟨rfl, .bl true, ?_, rfl⟩⟩
        rcases G.sign row mem c hc with e | e
        · subst e
          simp
        · by_cases z : c = 46
          · subst z
            simp
          · have zb : (c == 46) = false := by simpa using z
            simp only [List.mem_cons, List.not_mem_nil, or_false] at e
            simp [zb, e]
    rw [all_trues] at comp
    have al := allF_trues h row
    simp [turn, l_need_picture_1, lr, hw1, hw8, hix, l0, comp, al]
  refine clean_pure0 ?_ rfl
  simp [f_need_picture, b_need_picture, begS, hr1, hr8, e]

/-- a row's runs behind so many places: (first, past, colour), and where the last begins -/
def runFold (sg : List Nat) : Nat → List (Nat × Nat × Nat) × Nat
  | 0 => ([], 0)
  | i + 1 => if i + 1 = sg.length ∨ sg.getD (i + 1) 0 ≠ sg.getD (runFold sg i).2 0 then
      (if sg.getD (runFold sg i).2 0 ≠ 46 then (runFold sg i).1 ++ [((runFold sg i).2, i + 1, sg.getD (runFold sg i).2 0)] else (runFold sg i).1, i + 1)
    else ((runFold sg i).1, (runFold sg i).2)
def runsRow (sg : List Nat) : List (Nat × Nat × Nat) := (runFold sg sg.length).1
abbrev Rn := Nat × Nat × Nat × Nat
def runsFrom : Nat → List (List Nat) → List Rn
  | _, [] => []
  | k, row :: rest => (runsRow row).map (fun q => (k, q)) ++ runsFrom (k + 1) rest
def runsP (rows : List (List Nat)) : List Rn := runsFrom 0 rows
def runD (q : Rn) : D := .tup [.int q.1, .int q.2.1, .int q.2.2.1, .str [q.2.2.2]]
theorem runFold_le (sg : List Nat) : ∀ i, (runFold sg i).2 ≤ i ∧ (runFold sg i).1.length ≤ i
  | 0 => by simp [runFold]
  | i + 1 => by
    obtain ⟨a, b⟩ := runFold_le sg i
    unfold runFold
    split
    · split <;> simp <;> omega
    · simp; omega
theorem atI_getD {l : List Nat} {i : Nat} (h : i < l.length) : atI l (i : Int) = some (l.getD i 0) := by
  rw [atI_nat' h]
  simp [h]
abbrev tagR (k : Nat) (q : Nat × Nat × Nat) : Rn := (k, q)
theorem row_loop {rows : List (List Nat)} {sg : List Nat} {h : Hs} {fl : Nat} (hf : fl ≤ h.length) (k : Nat) (pre : List D) (hp : pre.length ≤ 1000) (h8 : sg.length ≤ 8) :
    mForL (gN 5) l_runs_of_1 (rngL 1 sg.length) [some (pic rows), some (.ref h.length), some (.int k), some (.str sg), some (.int 0), none] fl (h ++ [.lst pre]) =
      .nx [some (pic rows), some (.ref h.length), some (.int k), some (.str sg), some (.int ((runFold sg sg.length).2 : Nat)), none] (h ++ [.lst (pre ++ ((runsRow sg).map (tagR k)).map runD)]) := by
  have e := for_rng_eq (g := gN 5) (body := l_runs_of_1) (fl := fl) (n := sg.length) (lo := 1) (fun i => [some (pic rows), some (.ref h.length), some (.int k), some (.str sg), some (.int ((runFold sg i).2 : Nat)), none]) (fun i => h ++ [.lst (pre ++ ((runFold sg i).1.map (tagR k)).map runD)]) fun i hi => by
    obtain ⟨f1, f2⟩ := runFold_le sg i
    obtain ⟨a, ha⟩ : ∃ a, a = sg.getD (runFold sg i).2 0 := ⟨_, rfl⟩
    have af : atI sg ((runFold sg i).2 : Int) = some a := by rw [ha]; exact atI_getD (by omega)
    have ec : (1 + (i : Int)) = ((i + 1 : Nat) : Int) := by omega
    have hlen : pre.length + (runFold sg i).1.length < 16777216 := by omega
    have w : ∀ d, wrOk fl h.length d = true := fun d => wrOk_ge hf
    obtain ⟨z, hz⟩ : ∃ z : Int, z = ((i + 1 : Nat) : Int) := ⟨_, rfl⟩
    have eF : runFold sg (i + 1) = if i + 1 = sg.length ∨ sg.getD (i + 1) 0 ≠ a then (if a ≠ 46 then (runFold sg i).1 ++ [((runFold sg i).2, i + 1, a)] else (runFold sg i).1, i + 1) else ((runFold sg i).1, (runFold sg i).2) := by rw [runFold, ← ha]
    have hz' : ((i + 1 : Nat) : Int) = z := hz.symm
    rw [ec, hz']
    by_cases c1 : i + 1 = sg.length
    · have c1' : (z == (sg.length : Int)) = true := by rw [hz, c1]; simp
      rw [if_pos (.inl c1)] at eF
      by_cases c2 : a = 46
      · rw [eF, if_neg (by simp [c2])]
        simp only [hz']
        simp [turn, l_runs_of_1, c1', af, c2]
      · have c2' : (a == 46) = false := by simpa using c2
        rw [eF, if_pos c2]
        simp only [List.map_append, List.map_cons, List.map_nil, tagR, runD, hz']
        simp [turn, l_runs_of_1, c1', af, c2', hlen, w]
    · have hlt : i + 1 < sg.length := by omega
      have c1' : (z == (sg.length : Int)) = false := by rw [hz]; simp; omega
      obtain ⟨b, hb⟩ : ∃ b, b = sg.getD (i + 1) 0 := ⟨_, rfl⟩
      have az : atI sg z = some b := by rw [hz, hb]; exact atI_getD hlt
      rw [← hb] at eF
      by_cases c3 : b = a
      · rw [if_neg (by simp [c1, c3])] at eF
        rw [eF]
        simp [turn, l_runs_of_1, c1', af, az, c3]
      · rw [if_pos (.inr c3)] at eF
        have c3' : (b == a) = false := by simpa using c3
        by_cases c2 : a = 46
        · rw [eF, if_neg (by simp [c2])]
          rw [c2] at c3'
          simp only [hz']
          simp [turn, l_runs_of_1, c1', af, az, c3', c2]
        · have c2' : (a == 46) = false := by simpa using c2
          rw [eF, if_pos c2]
          simp only [List.map_append, List.map_cons, List.map_nil, tagR, runD, hz']
          simp [turn, l_runs_of_1, c1', af, az, c3', c2', hlen, w]
  simpa [runFold, runsRow] using e
theorem runs_loop {rows0 : List (List Nat)} {h : Hs} {fl : Nat} (hf : fl ≤ h.length) : ∀ (rows : List (List Nat)) (k : Nat) (pre : List D), (∀ row ∈ rows, row.length ≤ 8) → pre.length + 8 * rows.length ≤ 1000 →
    mForL (gTp 2 (gsCons (gN 2) (gsCons (gN 3) gsNil))) l_runs_of_2 (((rows.map D.str).zipIdx k).map fun p => .tup [.int p.2, p.1]) [some (pic rows0), some (.ref h.length), none, none, none, none] fl (h ++ [.lst pre]) =
      .nx [some (pic rows0), some (.ref h.length), none, none, none, none] (h ++ [.lst (pre ++ (runsFrom k rows).map runD)]) := by
  intro rows
  induction rows with
  | nil => exact fun k pre _ _ => by simp [runsFrom]
  | cons row rows ih =>
    intro k pre h8 hp
    simp only [List.length_cons] at hp
    have hr8 := h8 row (by simp)
    have e1 := row_loop (rows := rows0) (sg := row) (h := h) (fl := fl) hf k pre (by omega) hr8
    have hl : (runsRow row).length ≤ 8 := Nat.le_trans (runFold_le row row.length).2 hr8
    have e2 := ih (k + 1) (pre ++ ((runsRow row).map (tagR k)).map runD) (fun r hr => h8 r (by simp [hr])) (by simp; omega)
    simp only [List.map_cons, List.zipIdx_cons]
    rw [mForL_cons (s' := [some (pic rows0), some (.ref h.length), none, none, none, none]) (h' := h ++ [.lst (pre ++ ((runsRow row).map (tagR k)).map runD)])]
    · rw [e2]
      simp [runsFrom, tagR]
    · have in1 : inI 1 = true := by decide
      have in2 : inI ((row.length : Int) + 1) = true := inI_of (by omega)
      have en : ((row.length : Int) + 1 - 1).toNat = row.length := by omega
      simp [turn, l_runs_of_2, in1, in2, e1]
theorem shal_runD (n : Nat) : ∀ l : List Rn, shalL (n + 1) (l.map runD) = true
  | [] => rfl
  | q :: l => by simp [shalL, shal, runD, shal_runD n l]
theorem enumL_from {ds : List D} : enumL ds = (ds.zipIdx 0).map fun p => .tup [.int p.2, p.1] := rfl
theorem Good.row8 {rows : List (List Nat)} {wide : Nat} (G : Good rows wide) : ∀ row ∈ rows, row.length ≤ 8 := fun row hr => by rw [G.len row hr]; exact G.w8
@[simp] theorem runs_of_eq {rows : List (List Nat)} {wide : Nat} (G : Good rows wide) (h : Hs) (fl : Nat) : clean f_runs_of [pic rows] fl h = .ok (.lst ((runsP rows).map runD)) h := by
  have hr := G.r8
  have e := runs_loop (rows0 := rows) (h := h) (fl := h.length) (Nat.le_refl _) rows 0 [] G.row8 (by simp; omega)
  refine clean_list ?_ (shal_runD 61 _)
  simp [f_runs_of, b_runs_of, begS, enumL_from, e]
  rfl
structure SpanOk (sg : List Nat) (a b c : Nat) : Prop where
  lt : a < b
  le : b ≤ sg.length
  col : ∀ j, a ≤ j → j < b → sg.getD j 0 = c
  nb : c ≠ 46
theorem runFold_ok (sg : List Nat) : ∀ i, i ≤ sg.length → (∀ q ∈ (runFold sg i).1, SpanOk sg q.1 q.2.1 q.2.2) ∧ (∀ j, (runFold sg i).2 ≤ j → j ≤ i → i < sg.length → sg.getD j 0 = sg.getD (runFold sg i).2 0) := by
  intro i
  induction i with
  | zero =>
    intro _
    refine ⟨fun q hq => by simp [runFold] at hq, fun j h1 h2 _ => ?_⟩
    rw [show j = 0 by omega]
    rfl
  | succ i ih =>
    intro hi
    obtain ⟨A, B⟩ := ih (by omega)
    have f1 := (runFold_le sg i).1
    by_cases c : i + 1 = sg.length ∨ sg.getD (i + 1) 0 ≠ sg.getD (runFold sg i).2 0
    · have e : runFold sg (i + 1) = (if sg.getD (runFold sg i).2 0 ≠ 46 then (runFold sg i).1 ++ [((runFold sg i).2, i + 1, sg.getD (runFold sg i).2 0)] else (runFold sg i).1, i + 1) := by rw [runFold, if_pos c]
      rw [e]
      refine ⟨fun q hq => ?_, fun j h1 h2 _ => by simp only at h1 ⊢; rw [show j = i + 1 by omega]⟩
      simp only at hq
      split at hq
      · rename_i nb
        rcases List.mem_append.mp hq with z | z
        · exact A q z
        · simp only [List.mem_singleton] at z
          subst z
          exact ⟨by simp only; omega, by simp only; omega, fun j h1 h2 => B j h1 (by simp only at h2; omega) (by omega), nb⟩
      · exact A q hq
    · have e : runFold sg (i + 1) = ((runFold sg i).1, (runFold sg i).2) := by rw [runFold, if_neg c]
      rw [e]
      refine ⟨A, fun j h1 h2 h3 => ?_⟩
      simp only at h1 ⊢
      by_cases z : j = i + 1
      · subst z
        exact Decidable.byContradiction fun y => c (.inr y)
      · exact B j h1 (by omega) (by omega)
theorem runsRow_ok {sg : List Nat} : ∀ q ∈ runsRow sg, SpanOk sg q.1 q.2.1 q.2.2 := (runFold_ok sg sg.length (Nat.le_refl _)).1
/-- a span of the picture -/
structure RnOk (rows : List (List Nat)) (q : Rn) : Prop where
  row : q.1 < rows.length
  span : SpanOk (rows.getD q.1 []) q.2.1 q.2.2.1 q.2.2.2
theorem runsFrom_ok : ∀ (rows : List (List Nat)) (k : Nat), ∀ q ∈ runsFrom k rows, ∃ i, q.1 = k + i ∧ i < rows.length ∧ SpanOk (rows.getD i []) q.2.1 q.2.2.1 q.2.2.2 := by
  intro rows
  induction rows with
  | nil => intro k q hq; simp [runsFrom] at hq
  | cons row rows ih =>
    intro k q hq
    unfold runsFrom at hq
    rcases List.mem_append.mp hq with z | z
    · obtain ⟨p, hp, rfl⟩ := List.mem_map.mp z
      exact ⟨0, by simp, by simp, runsRow_ok p hp⟩
    · obtain ⟨i, e1, e2, e3⟩ := ih (k + 1) q z
      exact ⟨i + 1, by omega, by simp; exact e2, e3⟩
theorem runsP_ok {rows : List (List Nat)} : ∀ q ∈ runsP rows, RnOk rows q := fun q hq => by
  obtain ⟨i, e1, e2, e3⟩ := runsFrom_ok rows 0 q hq
  have : q.1 = i := by omega
  exact ⟨by omega, by rw [this]; exact e3⟩

def cutF (long : Nat) : Nat → Nat → Nat → List (Nat × Nat)
  | 0, a, b => [(a, b)]
  | k + 1, a, b => if b - a > long then (a, a + long) :: cutF long k (a + long) b else [(a, b)]
def cutG (long a b : Nat) : List (Nat × Nat) := cutF long (b - a) a b
theorem cutF_end {long k a b : Nat} (c : ¬ b - a > long) : cutF long k a b = [(a, b)] := by
  cases k with
  | zero => rfl
  | succ k => rw [cutF, if_neg c]
theorem cutF_fuel {long : Nat} (h1 : 1 ≤ long) : ∀ (k k2 a b : Nat), b - a ≤ k → b - a ≤ k2 → cutF long k a b = cutF long k2 a b := by
  intro k
  induction k with
  | zero => intro k2 a b h h2; rw [cutF_end (by omega), cutF_end (by omega)]
  | succ k ih =>
    intro k2 a b h h2
    by_cases c : b - a > long
    · obtain ⟨m, rfl⟩ : ∃ m, k2 = m + 1 := ⟨k2 - 1, by omega⟩
      rw [cutF, cutF, if_pos c, if_pos c, ih m (a + long) b (by omega) (by omega)]
    · rw [cutF_end c, cutF_end c]
theorem cutG_more {long a b : Nat} (h1 : 1 ≤ long) (c : b - a > long) : cutG long a b = (a, a + long) :: cutG long (a + long) b := by
  unfold cutG
  obtain ⟨m, hm⟩ : ∃ m, b - a = m + 1 := ⟨b - a - 1, by omega⟩
  rw [hm, cutF, if_pos c, cutF_fuel h1 m (b - (a + long)) (a + long) b (by omega) (by omega)]
theorem cutG_end {long a b : Nat} (c : ¬ b - a > long) : cutG long a b = [(a, b)] := cutF_end c
theorem cutG_len {long : Nat} (h1 : 1 ≤ long) : ∀ (k a b : Nat), b - a ≤ k → (cutG long a b).length ≤ k + 1 := by
  intro k
  induction k with
  | zero => intro a b h; rw [cutG_end (by omega)]; simp
  | succ k ih =>
    intro a b h
    by_cases c : b - a > long
    · rw [cutG_more h1 c]
      have := ih (a + long) b (by omega)
      simp; omega
    · rw [cutG_end c]; simp
def cutR (long : Nat) (q : Rn) : List Rn := (cutG long q.2.1 q.2.2.1).map fun p => (q.1, p.1, p.2, q.2.2.2)
def stitchesP (long : Nat) (rows : List (List Nat)) : List Rn := (runsP rows).flatMap (cutR long)
theorem cutR_more {long : Nat} (h1 : 1 ≤ long) {r a b c : Nat} (cc : b - a > long) : cutR long (r, a, b, c) = (r, a, a + long, c) :: cutR long (r, a + long, b, c) := by
  unfold cutR
  simp only
  rw [cutG_more h1 cc]
  rfl
theorem cutR_end {long : Nat} {r a b c : Nat} (cc : ¬ b - a > long) : cutR long (r, a, b, c) = [(r, a, b, c)] := by
  unfold cutR
  simp only
  rw [cutG_end cc]
  rfl
theorem cutR_len {long : Nat} (h1 : 1 ≤ long) (q : Rn) : (cutR long q).length ≤ q.2.2.1 - q.2.1 + 1 := by
  unfold cutR
  rw [List.length_map]
  exact cutG_len h1 _ q.2.1 q.2.2.1 (Nat.le_refl _)
theorem cut_loop {rows : List (List Nat)} {long : Nat} (h1 : 1 ≤ long) {h : Hs} {fl : Nat} (hf : fl ≤ h.length) (q : Rn) (hq : q.2.2.1 ≤ 100) (pre : List D) (hp : pre.length ≤ 1000000) :
    ∃ (a : Nat) (acc : List D), mWhile (mTb (mBin gtM (mBin subD (mV 5) (mV 4)) (mV 1))) l_stitches_of_1 1000 [some (pic rows), some (.int long), some (.ref h.length), some (.int q.1), some (.int q.2.1), some (.int q.2.2.1), some (.str [q.2.2.2])] fl (h ++ [.lst pre]) =
        .nx [some (pic rows), some (.int long), some (.ref h.length), some (.int q.1), some (.int a), some (.int q.2.2.1), some (.str [q.2.2.2])] (h ++ [.lst acc]) ∧
      acc.length ≤ 1000100 ∧ acc ++ [runD (q.1, a, q.2.2.1, q.2.2.2)] = pre ++ (cutR long q).map runD := by
  obtain ⟨r, a0, b, c⟩ := q
  simp only at hq ⊢
  have w : ∀ d, wrOk fl h.length d = true := fun d => wrOk_ge hf
  obtain ⟨e, j, p, hc⟩ := while_fold (t := mTb (mBin gtM (mBin subD (mV 5) (mV 4)) (mV 1))) (body := l_stitches_of_1) (fl := fl)
    (fun (x : Nat × List D) => decide (b - x.1 > long)) (fun x => (x.1 + long, x.2 ++ [runD (r, x.1, x.1 + long, c)]))
    (fun x => [some (pic rows), some (.int long), some (.ref h.length), some (.int r), some (.int x.1), some (.int b), some (.str [c])]) (fun x => h ++ [.lst x.2])
    (fun k x => b - x.1 ≤ k ∧ k ≤ 100 ∧ x.2.length + k ≤ 1000100 ∧ x.2 ++ (cutR long (r, x.1, b, c)).map runD = pre ++ (cutR long (r, a0, b, c)).map runD)
    (fun k x p => by
      obtain ⟨a, acc⟩ := x
      simp only at p ⊢
      obtain ⟨p1, p2, p3, p4⟩ := p
      by_cases cc : b - a > long
      · have hlt : ((long : Int) < (b : Int) - (a : Int)) := by omega
        have hal : acc.length < 16777216 := by omega
        refine ⟨by simp [hlt]; omega, fun _ => ⟨by simp [l_stitches_of_1, w, hal, runD], k - 1, by omega, by omega, by omega, by simp; omega, ?_⟩⟩
        rw [← p4, cutR_more h1 cc]
        simp
      · have hlt : ¬ ((long : Int) < (b : Int) - (a : Int)) := by omega
        exact ⟨by simp [hlt]; omega, fun z => absurd (of_decide_eq_true z) cc⟩)
    1000 (b - a0) (a0, pre) ⟨Nat.le_refl _, by omega, by simp only; omega, rfl⟩ (by omega)
  obtain ⟨a, acc⟩ : Nat × List D := iterP (fun (x : Nat × List D) => decide (b - x.1 > long)) (fun x => (x.1 + long, x.2 ++ [runD (r, x.1, x.1 + long, c)])) (b - a0) (a0, pre)
  generalize iterP (fun (x : Nat × List D) => decide (b - x.1 > long)) (fun x => (x.1 + long, x.2 ++ [runD (r, x.1, x.1 + long, c)])) (b - a0) (a0, pre) = z at e p hc
  obtain ⟨p1, p2, p3, p4⟩ := p
  refine ⟨z.1, z.2, e, by omega, ?_⟩
  rw [← p4, cutR_end (of_decide_eq_false hc)]
  rfl
theorem stitches_loop {rows : List (List Nat)} {long : Nat} (h1 : 1 ≤ long) {h : Hs} {fl : Nat} (hf : fl ≤ h.length) : ∀ (qs : List Rn) (pre : List D), (∀ q ∈ qs, q.2.2.1 ≤ 100) → pre.length + 200 * qs.length ≤ 1000000 →
    mForL (gTp 4 (gsCons (gN 3) (gsCons (gN 4) (gsCons (gN 5) (gsCons (gN 6) gsNil))))) l_stitches_of_2 (qs.map runD) [some (pic rows), some (.int long), some (.ref h.length), none, none, none, none] fl (h ++ [.lst pre]) =
      .nx [some (pic rows), some (.int long), some (.ref h.length), none, none, none, none] (h ++ [.lst (pre ++ (qs.flatMap (cutR long)).map runD)]) := by
  intro qs
  induction qs with
  | nil => exact fun pre _ _ => by simp
  | cons q qs ih =>
    intro pre hq hp
    simp only [List.length_cons] at hp
    have hq1 := hq q (by simp)
    obtain ⟨a, acc, e1, hacc, ea⟩ := cut_loop (rows := rows) h1 hf q hq1 pre (by omega)
    have hlen := cutR_len h1 q
    have e2 := ih (pre ++ (cutR long q).map runD) (fun x hx => hq x (by simp [hx])) (by simp; omega)
    have hal : acc.length < 16777216 := by omega
    have w : ∀ d, wrOk fl h.length d = true := fun d => wrOk_ge hf
    simp only [List.map_cons]
    rw [mForL_cons (s' := [some (pic rows), some (.int long), some (.ref h.length), none, none, none, none]) (h' := h ++ [.lst (pre ++ (cutR long q).map runD)])]
    · rw [e2]
      simp
    · rw [← ea]
      show turn _ _ (.tup [.int q.1, .int q.2.1, .int q.2.2.1, .str [q.2.2.2]]) _ _ _ = _
      simp [turn, l_stitches_of_2, e1, w, hal, runD]
theorem runs_bound {rows : List (List Nat)} {n : Nat} (hw : ∀ row ∈ rows, row.length ≤ n) : ∀ (k : Nat), ∀ q ∈ runsFrom k rows, q.2.2.1 ≤ n := by
  induction rows with
  | nil => intro k q hq; simp [runsFrom] at hq
  | cons row rows ih =>
    intro k q hq
    unfold runsFrom at hq
    rcases List.mem_append.mp hq with z | z
    · obtain ⟨p, hp, rfl⟩ := List.mem_map.mp z
      have : ∀ i, ∀ p ∈ (runFold row i).1, p.2.1 ≤ i := by
        intro i
        induction i with
        | zero => intro p hp; simp [runFold] at hp
        | succ i ih2 =>
          intro p hp
          unfold runFold at hp
          split at hp
          · split at hp
            · rcases List.mem_append.mp hp with y | y
              · have := ih2 p y; omega
              · simp at y; subst y; simp
            · have := ih2 p hp; omega
          · have := ih2 p hp; omega
      exact Nat.le_trans (this row.length p hp) (hw row (by simp))
    · exact ih (fun r hr => hw r (by simp [hr])) (k + 1) q z
theorem runs_len {rows : List (List Nat)} {n : Nat} (hw : ∀ row ∈ rows, row.length ≤ n) : ∀ (k : Nat), (runsFrom k rows).length ≤ n * rows.length := by
  induction rows with
  | nil => intro k; simp [runsFrom]
  | cons row rows ih =>
    intro k
    have a := ih (fun r hr => hw r (by simp [hr])) (k + 1)
    have b := Nat.le_trans (runFold_le row row.length).2 (hw row (by simp))
    simp only [runsFrom, List.length_append, List.length_map, List.length_cons]
    rw [Nat.mul_add, Nat.mul_one]
    unfold runsRow
    omega
@[simp] theorem stitches_of_eq {rows : List (List Nat)} {wide : Nat} (G : Good rows wide) {long : Nat} (h1 : 1 ≤ long) (h : Hs) (fl : Nat) : clean f_stitches_of [pic rows, .int long] fl h = .ok (.lst ((stitchesP long rows).map runD)) h := by
  have hl := runs_len G.row8 0
  have hr8 := G.r8
  have e := stitches_loop (rows := rows) h1 (h := h) (fl := h.length) (Nat.le_refl _) (runsP rows) [] (fun q hq => Nat.le_trans (runs_bound G.row8 0 q hq) (by omega)) (by simp; unfold runsP; omega)
  refine clean_list ?_ (shal_runD 61 _)
  simp [f_stitches_of, b_stitches_of, begS, runs_of_eq G, e]
  rfl
theorem cutG_ok {long : Nat} (h1 : 1 ≤ long) : ∀ (k a b : Nat), b - a ≤ k → a < b → ∀ p ∈ cutG long a b, a ≤ p.1 ∧ p.1 < p.2 ∧ p.2 ≤ b := by
  intro k
  induction k with
  | zero => intro a b h hab; omega
  | succ k ih =>
    intro a b h hab p hp
    by_cases c : b - a > long
    · rw [cutG_more h1 c] at hp
      rcases List.mem_cons.mp hp with e | e
      · subst e; simp only; omega
      · have := ih (a + long) b (by omega) (by omega) p e
        omega
    · rw [cutG_end c] at hp
      simp only [List.mem_singleton] at hp
      subst hp
      simp only; omega
theorem stitchesP_ok {rows : List (List Nat)} {long : Nat} (h1 : 1 ≤ long) : ∀ q ∈ stitchesP long rows, RnOk rows q := fun q hq => by
  unfold stitchesP at hq
  obtain ⟨r, hr, hq⟩ := List.mem_flatMap.mp hq
  unfold cutR at hq
  obtain ⟨p, hp, rfl⟩ := List.mem_map.mp hq
  obtain ⟨R1, R2⟩ := runsP_ok r hr
  obtain ⟨a, b, c⟩ := cutG_ok h1 _ r.2.1 r.2.2.1 (Nat.le_refl _) R2.lt p hp
  exact ⟨R1, ⟨b, Nat.le_trans c R2.le, fun j x y => R2.col j (by simp only at x; omega) (by simp only at y; omega), R2.nb⟩⟩
theorem runsP_len {rows : List (List Nat)} {wide : Nat} (G : Good rows wide) : (runsP rows).length ≤ 64 := by
  have h := runs_len (n := 8) (rows := rows) (fun row hr => by rw [G.len row hr]; exact G.w8) 0
  have := G.r8
  unfold runsP
  omega
theorem flatMap_len {α β : Type} {f : α → List β} {n : Nat} : ∀ {l : List α}, (∀ a ∈ l, (f a).length ≤ n) → (l.flatMap f).length ≤ n * l.length := by
  intro l
  induction l with
  | nil => intro _; simp
  | cons a l ih =>
    intro h
    have i := ih fun x hx => h x (by simp [hx])
    have j := h a (by simp)
    simp only [List.flatMap_cons, List.length_append, List.length_cons]
    rw [Nat.mul_add, Nat.mul_one]
    omega
theorem RnOk.le8 {rows : List (List Nat)} {wide : Nat} (G : Good rows wide) {q : Rn} (R : RnOk rows q) : q.2.1 ≤ q.2.2.1 ∧ q.2.2.1 ≤ 8 := by
  have a := R.span.lt
  have b := R.span.le
  have hr := R.row
  have e : rows.getD q.1 [] = rows[q.1] := by simp [hr]
  rw [e, G.len _ (List.getElem_mem hr)] at b
  have := G.w8
  omega
theorem stitchesP_len {rows : List (List Nat)} {wide : Nat} (G : Good rows wide) {long : Nat} (h1 : 1 ≤ long) : (stitchesP long rows).length ≤ 576 := by
  have a := runsP_len G
  have b : (stitchesP long rows).length ≤ 9 * (runsP rows).length := flatMap_len fun q hq => by
    have c := (runsP_ok q hq).le8 G
    unfold cutR
    rw [List.length_map]
    have := cutG_len h1 (q.2.2.1 - q.2.1) q.2.1 q.2.2.1 (Nat.le_refl _)
    omega
  omega

@[simp] theorem stitches_eq {rows : List (List Nat)} {wide : Nat} (G : Good rows wide) {long : Nat} (h1 : 1 ≤ long) (h8 : long ≤ 8) (h : Hs) (fl : Nat) : clean f_stitches [pic rows, .int long] fl h = .ok (.lst ((stitchesP long rows).map runD)) h := by
  have a1 : (1 : Int) ≤ long := by omega
  have a8 : (long : Int) ≤ 8 := by omega
  refine clean_pure0 ?_ (shal_runD 61 _)
  simp [f_stitches, b_stitches, begS, need_picture_eq G, stitches_of_eq G, h1, a1, a8]

def drawn (n m p : Int) : Int := (n * 100 + 2 * m) * p / 200
@[simp] theorem drawn_eq {n m p : Int} (p0 : 0 ≤ p) (p1 : p ≤ 60) (h : Hs) (fl : Nat) : clean f_drawn_in [.int n, .int m, .int p] fl h = .ok (.int (drawn n m p)) h := by
  have hp : p.natAbs < 18446744073709551616 := by omega
  refine clean_pure0 ?_ rfl
  simp [f_drawn_in, b_drawn_in, begS, hp, drawn]
def gapsR (p : Int) (q : Rn) : List D :=
  if 0 < drawn ((q.2.2.1 : Int) - q.2.1) 0 p then
    [.tup [.int q.1, .int ((q.2.1 : Int) * 100), .int ((q.2.1 : Int) * 100 + drawn ((q.2.2.1 : Int) - q.2.1) 0 p)], .tup [.int q.1, .int ((q.2.2.1 : Int) * 100 - drawn ((q.2.2.1 : Int) - q.2.1) 0 p), .int ((q.2.2.1 : Int) * 100)]]
  else []
theorem gaps_loop {rows : List (List Nat)} {long p : Int} (p0 : 0 ≤ p) (p1 : p ≤ 60) {h : Hs} {fl : Nat} (hf : fl ≤ h.length) : ∀ (qs : List Rn) (pre : List D), pre.length + 2 * qs.length ≤ 1000000 →
    mForL (gTp 4 (gsCons (gN 4) (gsCons (gN 5) (gsCons (gN 6) (gsCons (gN 7) gsNil))))) l_gaps_1 (qs.map runD) [some (pic rows), some (.int p), some (.int long), some (.ref h.length), none, none, none, none, none] fl (h ++ [.lst pre]) =
      .nx [some (pic rows), some (.int p), some (.int long), some (.ref h.length), none, none, none, none, none] (h ++ [.lst (pre ++ qs.flatMap (gapsR p))]) := by
  intro qs
  induction qs with
  | nil => exact fun pre _ => by simp
  | cons q qs ih =>
    intro pre hp
    simp only [List.length_cons] at hp
    have hal : pre.length < 16777216 := by omega
    have hal2 : pre.length + 1 < 16777216 := by omega
    have w : ∀ d, wrOk fl h.length d = true := fun d => wrOk_ge hf
    have hgl : (gapsR p q).length ≤ 2 := by unfold gapsR; split <;> simp
    have e2 := ih (pre ++ gapsR p q) (by simp; omega)
    simp only [List.map_cons]
    rw [mForL_cons (s' := [some (pic rows), some (.int p), some (.int long), some (.ref h.length), none, none, none, none, none]) (h' := h ++ [.lst (pre ++ gapsR p q)])]
    · rw [e2]
      simp
    · show turn _ _ (.tup [.int q.1, .int q.2.1, .int q.2.2.1, .str [q.2.2.2]]) _ _ _ = _
      by_cases c : 0 < drawn ((q.2.2.1 : Int) - q.2.1) 0 p
      · simp [turn, l_gaps_1, p0, p1, w, hal, hal2, c, gapsR]
      · simp [turn, l_gaps_1, p0, p1, c, gapsR]
theorem shal_gaps {p : Int} (l : List Rn) : shalL 62 (l.flatMap (gapsR p)) = true := by
  induction l with
  | nil => rfl
  | cons q l ih =>
    simp only [List.flatMap_cons]
    by_cases cc : 0 < drawn ((q.2.2.1 : Int) - q.2.1) 0 p
    · rw [gapsR, if_pos cc]
      simpa [shalL, shal] using ih
    · rw [gapsR, if_neg cc]
      simpa using ih
theorem gaps_eq {rows : List (List Nat)} {wide : Nat} (G : Good rows wide) {long : Nat} (h1 : 1 ≤ long) (h8 : long ≤ 8) {p : Int} (p0 : 0 ≤ p) (p1 : p ≤ 60) (h : Hs) (fl : Nat) : clean f_gaps [pic rows, .int p, .int long] fl h = .ok (.lst ((stitchesP long rows).flatMap (gapsR p))) h := by
  have hsl := stitchesP_len G h1
  have e := gaps_loop (rows := rows) (long := long) p0 p1 (h := h) (fl := h.length) (Nat.le_refl _) (stitchesP long rows) [] (by simp; omega)
  have a1 : (1 : Int) ≤ long := by omega
  have a8 : (long : Int) ≤ 8 := by omega
  refine clean_list ?_ (shal_gaps _)
  simp [f_gaps, b_gaps, begS, need_picture_eq G, stitches_of_eq G, h1, a1, a8, p0, p1, e]
theorem drawn_mono {n m m' p : Int} (p0 : 0 ≤ p) (h : m ≤ m') : drawn n m p ≤ drawn n m' p := by
  unfold drawn
  exact Int.ediv_le_ediv (by omega) (Int.mul_le_mul_of_nonneg_right (by omega) p0)
theorem drawn_monoP {n m p p' : Int} (n0 : 0 ≤ n) (m0 : 0 ≤ m) (h : p ≤ p') : drawn n m p ≤ drawn n m p' := by
  unfold drawn
  exact Int.ediv_le_ediv (by omega) (Int.mul_le_mul_of_nonneg_left h (by omega))
theorem drawn_nonneg {n m p : Int} (n0 : 0 ≤ n) (m0 : 0 ≤ m) (p0 : 0 ≤ p) : 0 ≤ drawn n m p := by
  unfold drawn
  exact Int.ediv_nonneg (Int.mul_nonneg (by omega) p0) (by omega)
theorem drawn_bound {n m p : Int} (n0 : 0 ≤ n) (m0 : 0 ≤ m) (p1 : p ≤ 60) (h : m ≤ 75 * n) : drawn n m p ≤ 75 * n := by
  unfold drawn
  have h2 : (n * 100 + 2 * m) * p ≤ (n * 100 + 2 * m) * 60 := Int.mul_le_mul_of_nonneg_left p1 (by omega)
  omega
/-- the least that is drawn in by no more -/
structure MG (n p m : Int) : Prop where
  nn : 0 ≤ m
  no : drawn n m p ≤ m
  prev : 0 < m → ∃ m1, 0 ≤ m1 ∧ m1 < m ∧ drawn n m1 p = m
  least : ∀ m0, 0 ≤ m0 → drawn n m0 p ≤ m0 → m ≤ m0
/-- by how much a stitch over n squares must be longer -/
def mgP (n : Nat) (p : Int) : Int := iterP (fun m => decide (m < drawn n m p)) (fun m => drawn n m p) (75 * n) 0
theorem mg_loop {rows : List (List Nat)} {long p : Int} {R : Nat} (p0 : 0 ≤ p) (p1 : p ≤ 60) {h : Hs} {fl : Nat} (q : Rn) (n : Nat) (hn : ((q.2.2.1 : Int) - q.2.1) = n) (h8 : n ≤ 8) :
    mWhile (mTb (mBin gtM (mCall (clean f_drawn_in) [] (mCons (mBin subD (mV 6) (mV 5)) (mCons (mV 8) (mCons (mV 1) mNil)))) (mV 8))) l_made_good_1 1000 [some (pic rows), some (.int p), some (.int long), some (.ref R), some (.int q.1), some (.int q.2.1), some (.int q.2.2.1), some (.str [q.2.2.2]), some (.int 0)] fl h =
      .nx [some (pic rows), some (.int p), some (.int long), some (.ref R), some (.int q.1), some (.int q.2.1), some (.int q.2.2.1), some (.str [q.2.2.2]), some (.int (mgP n p))] h ∧ MG n p (mgP n p) := by
  obtain ⟨e, j, pj, hc⟩ := while_fold (t := mTb (mBin gtM (mCall (clean f_drawn_in) [] (mCons (mBin subD (mV 6) (mV 5)) (mCons (mV 8) (mCons (mV 1) mNil)))) (mV 8))) (body := l_made_good_1) (fl := fl)
    (fun (m : Int) => decide (m < drawn n m p)) (fun m => drawn n m p) (fun m => [some (pic rows), some (.int p), some (.int long), some (.ref R), some (.int q.1), some (.int q.2.1), some (.int q.2.2.1), some (.str [q.2.2.2]), some (.int m)]) (fun _ => h)
    (fun k m => 0 ≤ m ∧ m ≤ 75 * n ∧ 75 * (n : Int) - m ≤ k ∧ (0 < m → ∃ m1, 0 ≤ m1 ∧ m1 < m ∧ drawn n m1 p = m) ∧ (∀ m0, 0 ≤ m0 → drawn n m0 p ≤ m0 → m ≤ m0))
    (fun k m ⟨m0, m1, mk, prev, least⟩ => by
      refine ⟨by simp [hn, p0, p1], fun z => ?_⟩
      have c := of_decide_eq_true z
      have hb := drawn_bound (n := n) (m := m) (p := p) (by omega) m0 p1 m1
      refine ⟨by simp [l_made_good_1, hn, p0, p1], k - 1, by omega, by omega, hb, by omega, fun _ => ⟨m, m0, c, rfl⟩, fun x x0 hx => ?_⟩
      exact Int.le_trans (drawn_mono p0 (least x x0 hx)) hx)
    1000 (75 * n) 0 ⟨by omega, by omega, by omega, fun z => by omega, fun m0 z _ => z⟩ (by omega)
  obtain ⟨m0, m1, mk, prev, least⟩ := pj
  have c := of_decide_eq_false hc
  exact ⟨e, m0, by unfold mgP; omega, prev, least⟩
theorem mg_mono {n p p' m m' : Int} (n0 : 0 ≤ n) (h : p ≤ p') (a : MG n p m) (b : MG n p' m') : m ≤ m' :=
  a.least m' b.nn (Int.le_trans (drawn_monoP n0 b.nn h) b.no)
abbrev wd (q : Rn) : Nat := q.2.2.1 - q.2.1
theorem made_loop {rows : List (List Nat)} {long p : Int} (p0 : 0 ≤ p) (p1 : p ≤ 60) {h : Hs} {fl : Nat} (hf : fl ≤ h.length) : ∀ (qs : List Rn) (pre : List D), (∀ q ∈ qs, q.2.1 ≤ q.2.2.1 ∧ q.2.2.1 ≤ 8) → pre.length + qs.length ≤ 1000000 →
    mForL (gTp 4 (gsCons (gN 4) (gsCons (gN 5) (gsCons (gN 6) (gsCons (gN 7) gsNil))))) l_made_good_2 (qs.map runD) [some (pic rows), some (.int p), some (.int long), some (.ref h.length), none, none, none, none, none] fl (h ++ [.lst pre]) =
      .nx [some (pic rows), some (.int p), some (.int long), some (.ref h.length), none, none, none, none, none] (h ++ [.lst (pre ++ (qs.map fun q => mgP (wd q) p).map .int)]) := by
  intro qs
  induction qs with
  | nil => exact fun pre _ _ => by simp
  | cons q qs ih =>
    intro pre hq hp
    simp only [List.length_cons] at hp
    obtain ⟨q1, q2⟩ := hq q (by simp)
    have e1 := (mg_loop (rows := rows) (long := long) (R := h.length) p0 p1 (h := h ++ [.lst pre]) (fl := fl) q (wd q) (by unfold wd; omega) (by unfold wd; omega)).1
    have e2 := ih (pre ++ [.int (mgP (wd q) p)]) (fun x hx => hq x (by simp [hx])) (by simp; omega)
    have hal : pre.length < 16777216 := by omega
    simp only [List.map_cons]
    rw [mForL_cons (s' := [some (pic rows), some (.int p), some (.int long), some (.ref h.length), none, none, none, none, none]) (h' := h ++ [.lst (pre ++ [.int (mgP (wd q) p)])])]
    · rw [e2]
      simp
    · show turn _ _ (.tup [.int q.1, .int q.2.1, .int q.2.2.1, .str [q.2.2.2]]) _ _ _ = _
      simp [turn, l_made_good_2, e1, hal]
def madeP (long : Nat) (p : Int) (rows : List (List Nat)) : List Int := (stitchesP long rows).map fun q => mgP (wd q) p
theorem made_eq {rows : List (List Nat)} {wide : Nat} (G : Good rows wide) {long : Nat} (h1 : 1 ≤ long) (h8 : long ≤ 8) {p : Int} (p0 : 0 ≤ p) (p1 : p ≤ 60) (h : Hs) (fl : Nat) :
    clean f_made_good [pic rows, .int p, .int long] fl h = .ok (.lst ((madeP long p rows).map .int)) h := by
  have hsl := stitchesP_len G h1
  have e := made_loop (rows := rows) (long := long) p0 p1 (h := h) (fl := h.length) (Nat.le_refl _) (stitchesP long rows) [] (fun q hq => (stitchesP_ok h1 q hq).le8 G) (by simp; omega)
  have a1 : (1 : Int) ≤ long := by omega
  have a8 : (long : Int) ≤ 8 := by omega
  refine clean_list ?_ (shal_ints _)
  simp [f_made_good, b_made_good, begS, need_picture_eq G, stitches_of_eq G, h1, a1, a8, p0, p1, e, madeP]
theorem made_MG {long : Nat} (h1 : 1 ≤ long) {rows : List (List Nat)} {wide : Nat} (G : Good rows wide) {p : Int} (p0 : 0 ≤ p) (p1 : p ≤ 60) : ∀ q ∈ stitchesP long rows, MG (wd q) p (mgP (wd q) p) := fun q hq => by
  have := (stitchesP_ok h1 q hq).le8 G
  exact (mg_loop (rows := []) (long := 0) (R := 0) p0 p1 (h := []) (fl := 0) q (wd q) (by unfold wd; omega) (by unfold wd; omega)).2

theorem drawn_alt (n m p : Int) : (100 * n + 2 * m) * p / 200 = drawn n m p := by unfold drawn; rw [Int.mul_comm 100 n]
theorem MG.least1 {n p m : Int} (p0 : 0 ≤ p) (a : MG n p m) (h : 0 < m) : ¬ (100 * n + 2 * m - 2) * p / 200 ≤ m - 1 := by
  obtain ⟨m1, h0, h1, e⟩ := a.prev h
  have : (100 * n + 2 * m - 2) = n * 100 + 2 * (m - 1) := by omega
  rw [this]
  have q : drawn n m1 p ≤ drawn n (m - 1) p := drawn_mono p0 (by omega)
  rw [e] at q
  unfold drawn at q
  omega
abbrev mks (p : Int) (qs : List Rn) : List Int := qs.map fun q => mgP (wd q) p
theorem law1 {sc pc tn j10 j11 j12 j13 j14 j15 j16 : Option D} {span : Int} {p : Int} {h : Hs} {fl : Nat} {qs : List Rn} (p0 : 0 ≤ p) (p1 : p ≤ 60) (hq : ∀ q ∈ qs, q.2.1 ≤ q.2.2.1) (mg : ∀ q ∈ qs, MG (wd q) p (mgP (wd q) p)) :
    mForL (gN 8) l_law_1 (rngL 0 qs.length) [sc, some (.ref 1), tn, pc, some (.int span), some (.int p), some (.lst (qs.map runD)), some (.lst ((mks p qs).map .int)), none, none, j10, j11, j12, j13, j14, j15, j16] fl h =
      .nx [sc, some (.ref 1), tn, pc, some (.int span), some (.int p), some (.lst (qs.map runD)), some (.lst ((mks p qs).map .int)), none, none, j10, j11, j12, j13, j14, j15, j16] h := by
  refine for_rng_eq (fun _ => [sc, some (.ref 1), tn, pc, some (.int span), some (.int p), some (.lst (qs.map runD)), some (.lst ((mks p qs).map .int)), none, none, j10, j11, j12, j13, j14, j15, j16]) (fun _ => h) fun i hi => ?_
  have mg := mg qs[i] (List.getElem_mem hi)
  have hq := hq qs[i] (List.getElem_mem hi)
  have ez : (0 : Int) + i = (i : Int) := by omega
  rw [ez]
  obtain ⟨m, hm⟩ : ∃ m, m = mgP (wd qs[i]) p := ⟨_, rfl⟩
  rw [← hm] at mg
  have ew : ((wd qs[i] : Nat) : Int) = (qs[i].2.2.1 : Int) - qs[i].2.1 := by unfold wd; omega
  rw [ew] at mg
  have a1 : atI (qs.map runD) (i : Int) = some (runD qs[i]) := by rw [atI_nat' (by simpa using hi)]; simp
  have a2 : atI ((mks p qs).map D.int) (i : Int) = some (.int m) := by rw [atI_nat' (by simpa using hi), hm]; simp
  have hp : p.natAbs < 18446744073709551616 := by omega
  have c1 : ¬ m < (100 * ((qs[i].2.2.1 : Int) - qs[i].2.1) + 2 * m) * p / 200 := by rw [drawn_alt]; have := mg.no; omega
  simp only [List.map_map] at a2
  by_cases c : 0 < m
  · have c2 := mg.least1 p0 c
    simp [turn, l_law_1, a1, a2, runD, hp, c1, c, c2]
  · simp [turn, l_law_1, a1, a2, runD, hp, c1, c]
structure GapD (rows : List (List Nat)) (wide : Nat) (d : D) : Prop where
  ex : ∃ (r : Nat) (a b : Int) (row : List Nat) (ch : Nat), d = .tup [.int r, .int a, .int b] ∧ 0 ≤ a ∧ a < b ∧ b ≤ 100 * wide ∧ rows[r]? = some row ∧ atI row (a / 100) = some ch ∧ ch ≠ 46
theorem inward_le {n : Nat} {p : Int} (p0 : 0 ≤ p) (p1 : p ≤ 60) : drawn n 0 p ≤ 30 * n := by
  unfold drawn
  have h2 : ((n : Int) * 100 + 2 * 0) * p ≤ ((n : Int) * 100 + 2 * 0) * 60 := Int.mul_le_mul_of_nonneg_left p1 (by omega)
  omega
theorem gaps_are {rows : List (List Nat)} {wide : Nat} (hlen : ∀ row ∈ rows, row.length = wide) {p : Int} (p0 : 0 ≤ p) (p1 : p ≤ 60) {q : Rn} (R : RnOk rows q) : ∀ d ∈ gapsR p q, GapD rows wide d := by
  intro d hd
  obtain ⟨r, a0, b0, c⟩ := q
  obtain ⟨R1, R2⟩ := R
  simp only at R1 R2
  have er : rows.getD r [] = rows[r] := by simp [R1]
  have em : rows[r] ∈ rows := List.getElem_mem R1
  have el := hlen _ em
  rw [er] at R2
  obtain ⟨lt, le, col, nb⟩ := R2
  have sg : ∀ j : Nat, a0 ≤ j → j < b0 → atI rows[r] (j : Int) = some c := fun j h1 h2 => by rw [atI_getD (by omega), col j h1 h2]
  have en : ((b0 : Int) - (a0 : Int)) = ((b0 - a0 : Nat) : Int) := by omega
  have inw := inward_le (n := b0 - a0) p0 p1
  unfold gapsR at hd
  simp only at hd
  split at hd
  · rename_i pos
    rw [en] at hd pos
    simp only [List.mem_cons, List.not_mem_nil, or_false] at hd
    rcases hd with e | e
    · refine ⟨r, (a0 : Int) * 100, (a0 : Int) * 100 + drawn ((b0 - a0 : Nat) : Int) 0 p, rows[r], c, e, by omega, by omega, by omega, by simp [R1], ?_, nb⟩
      rw [show ((a0 : Int) * 100) / 100 = (a0 : Int) by omega]
      exact sg a0 (Nat.le_refl _) lt
    · refine ⟨r, (b0 : Int) * 100 - drawn ((b0 - a0 : Nat) : Int) 0 p, (b0 : Int) * 100, rows[r], c, e, by omega, by omega, by omega, by simp [R1], ?_, nb⟩
      have := sg (((b0 : Int) * 100 - drawn ((b0 - a0 : Nat) : Int) 0 p) / 100).toNat (by omega) (by omega)
      rw [← this]
      congr 1
      omega
  · simp at hd
theorem law2 {sc tn j6 j7 j8 j9 j10 j11 j12 j13 : Option D} {span p : Int} {rows : List (List Nat)} {wide : Nat} (G : Good rows wide) {h : Hs} {fl : Nat} (ds : List D) (hd : ∀ d ∈ ds, GapD rows wide d) :
    mForL (gTp 3 (gsCons (gN 14) (gsCons (gN 15) (gsCons (gN 16) gsNil)))) l_law_2 ds [sc, some (.ref 1), tn, some (pic rows), some (.int span), some (.int p), j6, j7, j8, j9, j10, j11, j12, j13, none, none, none] fl h =
      .nx [sc, some (.ref 1), tn, some (pic rows), some (.int span), some (.int p), j6, j7, j8, j9, j10, j11, j12, j13, none, none, none] h := by
  refine for_list_eq ds (fun _ => [sc, some (.ref 1), tn, some (pic rows), some (.int span), some (.int p), j6, j7, j8, j9, j10, j11, j12, j13, none, none, none]) (fun _ => h) fun i hi => ?_
  obtain ⟨r, a, b, row, ch, ed, a0, ab, bw, hr, hc, nb⟩ := (hd ds[i] (List.getElem_mem hi)).ex
  rw [ed]
  obtain ⟨row0, hix, l0⟩ := G.ix0
  have hr' : r < rows.length := (List.getElem?_eq_some_iff.mp hr).1
  have hix2 : atI (rows.map D.str) (r : Int) = some (.str row) := by
    rw [atI_nat' (by simpa using hr')]
    obtain ⟨x, y⟩ := List.getElem?_eq_some_iff.mp hr
    simp [y]
  have nb' : (ch == 46) = false := by simpa using nb
  simp [turn, l_law_2, hix, hix2, l0, a0, ab, bw, hc, nb']
def sizeD : D → Option D
  | .tup [_, .int a, .int b] => some (.int (b - a))
  | _ => none
def sizesP (p : Int) (qs : List Rn) : List Int := qs.flatMap fun q => if 0 < drawn ((q.2.2.1 : Int) - q.2.1) 0 p then [drawn ((q.2.2.1 : Int) - q.2.1) 0 p, drawn ((q.2.2.1 : Int) - q.2.1) 0 p] else []
theorem sizes_are (p : Int) (qs : List Rn) : (qs.flatMap (gapsR p)).filterMap sizeD = (sizesP p qs).map .int := by
  induction qs with
  | nil => rfl
  | cons q qs ih =>
    unfold sizesP at ih ⊢
    simp only [List.flatMap_cons, List.filterMap_append, List.map_append, ih]
    congr 1
    unfold gapsR
    by_cases c : 0 < drawn ((q.2.2.1 : Int) - q.2.1) 0 p
    · rw [if_pos c, if_pos c]
      simp only [List.filterMap_cons, List.filterMap_nil, sizeD, List.map_cons, List.map_nil]
      congr 3 <;> omega
    · rw [if_neg c, if_neg c]
      rfl
theorem sizes_mono {p p' : Int} (h : p ≤ p') : ∀ (qs : List Rn), (∀ q ∈ qs, q.2.1 ≤ q.2.2.1) → (sizesP p qs).sum ≤ (sizesP p' qs).sum := by
  intro qs
  induction qs with
  | nil => intro _; simp [sizesP]
  | cons q qs ih =>
    intro hq
    have i := ih fun x hx => hq x (by simp [hx])
    have n0 := hq q (by simp)
    have d := drawn_monoP (n := (q.2.2.1 : Int) - q.2.1) (m := 0) (by omega) (by omega) h
    unfold sizesP at i ⊢
    simp only [List.flatMap_cons, List.sum_append]
    split <;> split <;> simp <;> omega
theorem comp_sizes {h : Hs} {rows : List (List Nat)} {wide : Nat} {a0 a1 a2 a3 a4 a5 a6 a7 a8 a9 a10 a11 a12 a13 : Option D} {p : Int} {qs : List Rn} (hd : ∀ d ∈ qs.flatMap (gapsR p), GapD rows wide d) (hl : (qs.flatMap (gapsR p)).length ≤ 16777216) :
    kLc [14, 15, 16] (gTp 3 (gsCons (gN 14) (gsCons (gN 15) (gsCons (gN 16) gsNil)))) mYes (mBin subD (mV 16) (mV 15)) [a0, a1, a2, a3, a4, a5, a6, a7, a8, a9, a10, a11, a12, a13, none, none, none] (.ok (qs.flatMap (gapsR p)) h) = .ok (.lst ((sizesP p qs).map .int)) h := by
  rw [← sizes_are]
  refine lc_ok sizeD hl (by rw [sizes_are]; exact shal_ints _) fun d hx acc => ?_
  obtain ⟨r, a, b, row, ch, rfl, _⟩ := (hd d hx).ex
  refine ⟨[a0, a1, a2, a3, a4, a5, a6, a7, a8, a9, a10, a11, a12, a13, some (.int r), some (.int a), some (.int b)], ?_, .inr ⟨rfl, _, ?_, rfl⟩⟩
  · simp
  · simp
theorem comp_none {h : Hs} {p p' : Int} {a0 a1 a2 a3 a4 a5 a6 a8 a9 a10 a11 a12 a14 a15 a16 : Option D} {qs : List Rn} (pp : p ≤ p') (m1 : ∀ q ∈ qs, MG (wd q) p (mgP (wd q) p)) (m2 : ∀ q ∈ qs, MG (wd q) p' (mgP (wd q) p')) (hl : qs.length ≤ 16777216) :
    kLc [8] (gN 8) (mTb (mBin ltM (mBin ixD (mV 13) (mV 8)) (mBin ixD (mV 7) (mV 8)))) (mV 8) [a0, a1, a2, a3, a4, a5, a6, some (.lst ((mks p qs).map .int)), a8, a9, a10, a11, a12, some (.lst ((mks p' qs).map .int)), a14, a15, a16] (.ok (rngL 0 qs.length) h) = .ok (.lst []) h := by
  have e : (rngL 0 qs.length).filterMap (fun _ : D => (none : Option D)) = [] := by simp
  rw [← e]
  refine lc_ok (fun _ => none) (by rw [rngL_len]; exact hl) (by rw [e]; rfl) fun d hx acc => ?_
  obtain ⟨i, hi⟩ := List.mem_iff_getElem?.mp hx
  obtain ⟨hlt, rfl⟩ := rngL_get hi
  have ez : (0 : Int) + i = (i : Int) := by omega
  rw [ez]
  have mm : mgP (wd qs[i]) p ≤ mgP (wd qs[i]) p' := mg_mono (by omega) pp (m1 _ (List.getElem_mem _)) (m2 _ (List.getElem_mem _))
  have a1 : atI ((mks p qs).map D.int) (i : Int) = some (.int (mgP (wd qs[i]) p)) := by rw [atI_nat' (by simpa using hlt)]; simp
  have a2 : atI ((mks p' qs).map D.int) (i : Int) = some (.int (mgP (wd qs[i]) p')) := by rw [atI_nat' (by simpa using hlt)]; simp
  have c : ¬ mgP (wd qs[i]) p' < mgP (wd qs[i]) p := by omega
  simp only [List.map_map] at a1 a2
  exact ⟨_, rfl, .inl ⟨by simp [a1, a2, c], rfl⟩⟩
theorem mg_zero {n m : Int} (a : MG n 0 m) : m = 0 := by
  have := a.least 0 (by omega) (by unfold drawn; omega)
  have := a.nn
  omega
theorem eqL_ints : ∀ l : List Int, eqL (l.map .int) (l.map .int) = true
  | [] => rfl
  | x :: l => by simp [eqL, eqD, eqL_ints l]
theorem ne_zeros {h : Hs} {qs : List Rn} (m1 : ∀ q ∈ qs, MG (wd q) 0 (mgP (wd q) 0)) : neM h (.lst ((mks 0 qs).map .int)) (.lst (List.replicate qs.length [D.int 0]).flatten) = some (.bl false) := by
  have e : mks 0 qs = List.replicate qs.length 0 := by
    refine List.eq_replicate_iff.mpr ⟨by simp, fun x hx => ?_⟩
    obtain ⟨q, hq, rfl⟩ := List.mem_map.mp hx
    exact mg_zero (m1 q hq)
  have e2 : (List.replicate qs.length [D.int 0]).flatten = (mks 0 qs).map .int := by
    rw [e]
    generalize qs.length = n
    induction n with
    | zero => rfl
    | succ k ih => simp [List.replicate_succ] at ih ⊢
  rw [e2]
  unfold neM
  have s1 : shal 60 (vw h (.lst ((mks 0 qs).map .int))) = true := shal_ints (n := 59) (mks 0 qs)
  rw [s1]
  simp only [Bool.and_self, if_true, vw_lst', eqD]
  rw [eqL_ints]
  rfl
theorem gaps_zero (qs : List Rn) : qs.flatMap (gapsR 0) = [] := by
  induction qs with
  | nil => rfl
  | cons q qs ih =>
    simp only [List.flatMap_cons, ih, List.append_nil]
    unfold gapsR drawn
    rw [if_neg (by omega)]
theorem intsO_map : ∀ l : List Int, intsO (l.map .int) = some l
  | [] => rfl
  | x :: l => by simp [intsO, intsO_map l]
theorem gaps_len {p : Int} {qs : List Rn} : (qs.flatMap (gapsR p)).length ≤ 2 * qs.length := flatMap_len fun q _ => by unfold gapsR; split <;> simp
theorem sum_ints {h : Hs} {l : List Int} : sumF h [.lst (l.map .int)] = some (.int l.sum) := by
  simp [sumF, vwL, intsO_map]
theorem law28_turn {sc : Option D} {tn : D} {S : Sd} {fl : Nat} :
    ∃ S', l_law_3 [sc, some (.ref 1), some tn, none, none, none, none, none, none, none, none, none, none, none, none, none, none] fl (mkS S []) = .nx [sc, some (.ref 1), none, none, none, none, none, none, none, none, none, none, none, none, none, none, none] (mkS S' []) := by
  have G := pic_good (S := S) (most := 8) (k := 3) (by omega) (by omega) (by omega) (by omega)
  generalize hrows : picR S 8 3 = rows at G
  generalize picW S 8 = wide at G
  obtain ⟨S1, hS1⟩ : ∃ S1, S1 = picS S 8 3 := ⟨_, rfl⟩
  have a0 := nextV_nn (S := S1) (n := 8) (by omega)
  have a1 := nextV_lt (S := S1) (n := 8) (by omega)
  obtain ⟨long, hlong⟩ : ∃ long : Nat, 1 + nextV S1 8 = (long : Int) := ⟨(1 + nextV S1 8).toNat, by omega⟩
  have p0 := nextV_nn (S := nextS S1 8) (n := 61) (by omega)
  have p1 := nextV_lt (S := nextS S1 8) (n := 61) (by omega)
  obtain ⟨p, hp⟩ : ∃ p, p = nextV (nextS S1 8) 61 := ⟨_, rfl⟩
  rw [← hp] at p0 p1
  obtain ⟨S2, hS2⟩ : ∃ S2, S2 = nextS (nextS S1 8) 61 := ⟨_, rfl⟩
  have b0 := nextV_nn (S := S2) (n := 10) (by omega)
  obtain ⟨st, hst⟩ : ∃ st : Int, st = (if p + nextV S2 10 < 60 then p + nextV S2 10 else 60) := ⟨_, rfl⟩
  have st0 : p ≤ st := by rw [hst]; split <;> omega
  have st1 : st ≤ 60 := by rw [hst]; split <;> omega
  have h1 : 1 ≤ long := by omega
  have h8 : long ≤ 8 := by omega
  have sl := stitchesP_len G h1
  have p60 : p ≤ 60 := by omega
  have q0 := made_MG h1 G (p := 0) (by omega) (by omega)
  have q1 := made_MG h1 G (p := p) p0 p60
  have q2 := made_MG h1 G (p := st) (by omega) (by omega)
  have hd1 : ∀ d ∈ (stitchesP long rows).flatMap (gapsR p), GapD rows wide d := fun d h => by
    obtain ⟨q, hq1, hq2⟩ := List.mem_flatMap.mp h
    exact gaps_are G.len p0 p60 (stitchesP_ok h1 q hq1) d hq2
  have hd2 : ∀ d ∈ (stitchesP long rows).flatMap (gapsR st), GapD rows wide d := fun d h => by
    obtain ⟨q, hq1, hq2⟩ := List.mem_flatMap.mp h
    exact gaps_are G.len (by omega) (by omega) (stitchesP_ok h1 q hq1) d hq2
  have gl1 := gaps_len (p := p) (qs := stitchesP long rows)
  have gl2 := gaps_len (p := st) (qs := stitchesP long rows)
  have hle : ∀ q ∈ stitchesP long rows, q.2.1 ≤ q.2.2.1 := fun q h => ((stitchesP_ok h1 q h).le8 G).1
  have hsum : ¬ (sizesP st (stitchesP long rows)).sum < (sizesP p (stitchesP long rows)).sum := by
    have := sizes_mono st0 (stitchesP long rows) hle
    omega
  have mlen : ∀ p, (madeP long p rows).length = (stitchesP long rows).length := fun p => by simp [madeP]
  have e1 := fun (pc tn j10 j11 j12 j13 j14 j15 j16 : Option D) (h : Hs) => law1 (sc := sc) (pc := pc) (tn := tn) (j10 := j10) (j11 := j11) (j12 := j12) (j13 := j13) (j14 := j14) (j15 := j15) (j16 := j16) (span := long) (fl := fl) (h := h) p0 p60 hle q1
  have e2 := fun (tn j6 j7 j8 j9 j10 j11 j12 j13 : Option D) (h : Hs) => law2 (sc := sc) (tn := tn) (j6 := j6) (j7 := j7) (j8 := j8) (j9 := j9) (j10 := j10) (j11 := j11) (j12 := j12) (j13 := j13) (span := long) (p := p) (fl := fl) (h := h) G _ hd1
  have c1 := fun (a0 a1 a2 a3 a4 a5 a6 a7 a8 a9 a10 a11 a12 a13 : Option D) (h : Hs) => comp_sizes (a0 := a0) (a1 := a1) (a2 := a2) (a3 := a3) (a4 := a4) (a5 := a5) (a6 := a6) (a7 := a7) (a8 := a8) (a9 := a9) (a10 := a10) (a11 := a11) (a12 := a12) (a13 := a13) (h := h) hd1 (by omega)
  have c2 := fun (a0 a1 a2 a3 a4 a5 a6 a7 a8 a9 a10 a11 a12 a13 : Option D) (h : Hs) => comp_sizes (a0 := a0) (a1 := a1) (a2 := a2) (a3 := a3) (a4 := a4) (a5 := a5) (a6 := a6) (a7 := a7) (a8 := a8) (a9 := a9) (a10 := a10) (a11 := a11) (a12 := a12) (a13 := a13) (h := h) hd2 (by omega)
  have c3 := fun (a0 a1 a2 a3 a4 a5 a6 a8 a9 a10 a11 a12 a14 a15 a16 : Option D) (h : Hs) => comp_none (a0 := a0) (a1 := a1) (a2 := a2) (a3 := a3) (a4 := a4) (a5 := a5) (a6 := a6) (a8 := a8) (a9 := a9) (a10 := a10) (a11 := a11) (a12 := a12) (a14 := a14) (a15 := a15) (a16 := a16) (h := h) st0 q1 q2 (by omega)
  have nz := fun h => ne_zeros (h := h) q0
  have inL : inI ((stitchesP long rows).length : Int) = true := inI_of (by omega)
  have sl2 : (stitchesP long rows).length ≤ 16777216 := by omega
  refine ⟨nextS S2 10, ?_⟩
  have ne0 : ∀ h : Hs, neM h (.lst []) (.lst []) = some (.bl false) := fun h => rfl
  have z0 : (0 : Int) ≤ 0 := by omega
  have z60 : (0 : Int) ≤ 60 := by omega
  have st00 : 0 ≤ st := by omega
  simp only [mks, List.flatten_replicate_singleton] at e1 c3 nz
  simp [-List.map_map, l_law_3, gkb_stitches_1_long, gkb_made_good_2_long, gkb_gaps_2_long, hrows, ← hS1, hlong, ← hp, ← hS2, ← hst, stitches_eq G, made_eq G, gaps_eq G, h1, h8, p0, p60, st00, st1, gaps_zero, ne0, madeP, nz, inL, e1, e2, c1, c2, c3, sum_ints, hsum, sl2, G]
theorem law_true (ns : List Int) (hl : ns.length ≤ 63) (_ : ∀ z ∈ ns, Builtin.Int.intBits z ≤ 1048576) : ∃ h', f_law [.scr ns] 0 [] = .ok (.bl true) h' := by
  obtain ⟨s', h', e, S', rfl, rfl⟩ := for_rng (g := gN 2) (body := l_law_3) (fl := 0) (n := 4) (lo := 0) (fun _ s h => ∃ S, s = [some (.scr ns), some (.ref 1), none, none, none, none, none, none, none, none, none, none, none, none, none, none, none] ∧ h = mkS S [])
    (s := [some (.scr ns), some (.ref 1), none, none, none, none, none, none, none, none, none, none, none, none, none, none, none]) (h := mkS (sd0 ns hl 109) []) ⟨_, rfl, rfl⟩ (fun i s h _ ⟨S, e1, e2⟩ => by
      subst e1 e2
      obtain ⟨S', e⟩ := law28_turn (sc := some (.scr ns)) (tn := .int i) (S := S) (fl := 0)
      exact ⟨_, mkS S' [], by simp [turn, e], S', rfl, rfl⟩)
  refine ⟨mkS S' [], ?_⟩
  have in4 : inI 4 = true := by decide
  have e4 : (4 : Int).toNat = 4 := rfl
  simp [f_law, b_law, begS, mix_sd ns hl, in4, e4, e]

end G
namespace G
open PySem PySem.Spec L2 NC
open PyProof.Rows hiding St
abbrev s__law_mix : Stmt := top 22
def d__law_mix : He.DefD := ⟨("_law_mix", none), "_law_mix", "_law_mix", defArgs s__law_mix, defBody s__law_mix, defScope s__law_mix, [], []⟩
abbrev N__law_mix : List Str := ["_law_script", "_law_seed", "_law_mixed", "_law_cell"]
abbrev P__law_mix : List Str := ["_law_script", "_law_seed"]
theorem sc__law_mix : FnScope N__law_mix P__law_mix (defScope s__law_mix) := ⟨rfl, rfl, rfl, by decide +kernel, rfl, by decide +kernel, by decide +kernel⟩
abbrev s__law_next : Stmt := top 23
def d__law_next : He.DefD := ⟨("_law_next", none), "_law_next", "_law_next", defArgs s__law_next, defBody s__law_next, defScope s__law_next, [], []⟩
abbrev N__law_next : List Str := ["_law_h", "_law_many", "_law_cell"]
abbrev P__law_next : List Str := ["_law_h", "_law_many"]
theorem sc__law_next : FnScope N__law_next P__law_next (defScope s__law_next) := ⟨rfl, rfl, rfl, by decide +kernel, rfl, by decide +kernel, by decide +kernel⟩
abbrev s__law_picture : Stmt := top 24
def d__law_picture : He.DefD := ⟨("_law_picture", none), "_law_picture", "_law_picture", defArgs s__law_picture, defBody s__law_picture, defScope s__law_picture, [], []⟩
abbrev N__law_picture : List Str := ["_law_h", "_law_most", "_law_colours", "_law_rows", "_law_wide", "_law_found", "_law_k", "_law_signs", "_law_sign", "_law_j"]
abbrev P__law_picture : List Str := ["_law_h", "_law_most", "_law_colours"]
theorem sc__law_picture : FnScope N__law_picture P__law_picture (defScope s__law_picture) := ⟨rfl, rfl, rfl, by decide +kernel, rfl, by decide +kernel, by decide +kernel⟩
abbrev s_drawn_in : Stmt := top 18
def d_drawn_in : He.DefD := ⟨("drawn_in", none), "drawn_in", "drawn_in", defArgs s_drawn_in, defBody s_drawn_in, defScope s_drawn_in, [], []⟩
abbrev N_drawn_in : List Str := ["squares", "more", "pull"]
abbrev P_drawn_in : List Str := ["squares", "more", "pull"]
theorem sc_drawn_in : FnScope N_drawn_in P_drawn_in (defScope s_drawn_in) := ⟨rfl, rfl, rfl, by decide +kernel, rfl, by decide +kernel, by decide +kernel⟩
abbrev s_need_count : Stmt := top 8
def d_need_count : He.DefD := ⟨("need_count", none), "need_count", "need_count", defArgs s_need_count, defBody s_need_count, defScope s_need_count, [], []⟩
abbrev N_need_count : List Str := ["number", "low", "high"]
abbrev P_need_count : List Str := ["number", "low", "high"]
theorem sc_need_count : FnScope N_need_count P_need_count (defScope s_need_count) := ⟨rfl, rfl, rfl, by decide +kernel, rfl, by decide +kernel, by decide +kernel⟩
abbrev s_need_picture : Stmt := top 9
def d_need_picture : He.DefD := ⟨("need_picture", none), "need_picture", "need_picture", defArgs s_need_picture, defBody s_need_picture, defScope s_need_picture, [], []⟩
abbrev N_need_picture : List Str := ["picture", "at", "row", "sign"]
abbrev P_need_picture : List Str := ["picture"]
theorem sc_need_picture : FnScope N_need_picture P_need_picture (defScope s_need_picture) := ⟨rfl, rfl, rfl, by decide +kernel, rfl, by decide +kernel, by decide +kernel⟩
abbrev s_runs_of : Stmt := top 10
def d_runs_of : He.DefD := ⟨("runs_of", none), "runs_of", "runs_of", defArgs s_runs_of, defBody s_runs_of, defScope s_runs_of, [], []⟩
abbrev N_runs_of : List Str := ["picture", "found", "row", "signs", "first", "place"]
abbrev P_runs_of : List Str := ["picture"]
theorem sc_runs_of : FnScope N_runs_of P_runs_of (defScope s_runs_of) := ⟨rfl, rfl, rfl, by decide +kernel, rfl, by decide +kernel, by decide +kernel⟩
abbrev s_stitches_of : Stmt := top 16
def d_stitches_of : He.DefD := ⟨("stitches_of", none), "stitches_of", "stitches_of", defArgs s_stitches_of, defBody s_stitches_of, defScope s_stitches_of, [], []⟩
abbrev N_stitches_of : List Str := ["picture", "long", "found", "row", "first", "past", "colour"]
abbrev P_stitches_of : List Str := ["picture", "long"]
theorem sc_stitches_of : FnScope N_stitches_of P_stitches_of (defScope s_stitches_of) := ⟨rfl, rfl, rfl, by decide +kernel, rfl, by decide +kernel, by decide +kernel⟩
abbrev s_gaps : Stmt := top 19
def d_gaps : He.DefD := ⟨("gaps", none), "gaps", "gaps", defArgs s_gaps, defBody s_gaps, defScope s_gaps, [], [("long", .int (4))]⟩
abbrev N_gaps : List Str := ["picture", "pull", "long", "found", "row", "first", "past", "colour", "inward"]
abbrev P_gaps : List Str := ["picture", "pull", "long"]
theorem sc_gaps : FnScope N_gaps P_gaps (defScope s_gaps) := ⟨rfl, rfl, rfl, by decide +kernel, rfl, by decide +kernel, by decide +kernel⟩
abbrev s_made_good : Stmt := top 20
def d_made_good : He.DefD := ⟨("made_good", none), "made_good", "made_good", defArgs s_made_good, defBody s_made_good, defScope s_made_good, [], [("long", .int (4))]⟩
abbrev N_made_good : List Str := ["picture", "pull", "long", "found", "row", "first", "past", "colour", "more"]
abbrev P_made_good : List Str := ["picture", "pull", "long"]
theorem sc_made_good : FnScope N_made_good P_made_good (defScope s_made_good) := ⟨rfl, rfl, rfl, by decide +kernel, rfl, by decide +kernel, by decide +kernel⟩
abbrev s_stitches : Stmt := top 17
def d_stitches : He.DefD := ⟨("stitches", none), "stitches", "stitches", defArgs s_stitches, defBody s_stitches, defScope s_stitches, [], [("long", .int (4))]⟩
abbrev N_stitches : List Str := ["picture", "long"]
abbrev P_stitches : List Str := ["picture", "long"]
theorem sc_stitches : FnScope N_stitches P_stitches (defScope s_stitches) := ⟨rfl, rfl, rfl, by decide +kernel, rfl, by decide +kernel, by decide +kernel⟩
abbrev s_law : Stmt := top 27
def d_law : He.DefD := ⟨("law", none), "law", "law", defArgs s_law, defBody s_law, defScope s_law, [], []⟩
abbrev N_law : List Str := ["_law_script", "_law_h", "_law_turn", "_law_picture_here", "_law_span", "_law_pull", "_law_rows", "_law_more", "_law_k", "_law_squares", "_law_stronger", "_law_sizes", "_law_wider", "_law_longer", "_law_row", "_law_first", "_law_past"]
abbrev P_law : List Str := ["_law_script"]
theorem sc_law : FnScope N_law P_law (defScope s_law) := ⟨rfl, rfl, rfl, by decide +kernel, rfl, by decide +kernel, by decide +kernel⟩
def fa : List He.Fa := [.glo "_law_mix", .free "range", .glo "_law_next", .glo "_law_picture", .glo "made_good", .glo "stitches", .free "len", .glo "gaps", .free "min", .free "sum", .free "list", .free "max", .free "tuple", .glo "need_picture", .glo "need_count", .int "MOST_PULL" (60), .int "MOST_LONG" (8), .glo "stitches_of", .glo "drawn_in", .int "SQUARE" (100), .int "MOST_ROWS" (8), .free "enumerate", .str "BARE" ".", .str "COLOURS" "abcdef", .free "all", .glo "runs_of", .glo "law"]
def fn : List He.DefD := [d__law_mix, d__law_next, d__law_picture, d_drawn_in, d_need_count, d_need_picture, d_runs_of, d_stitches_of, d_gaps, d_made_good, d_stitches, d_law]
abbrev cn (K : PySem.W.Frag) : Cn := ⟨K, fun _ => 0, fun _ => [], fun _ => none⟩
/-- what the top has left -/
structure Tx (K : PySem.W.Frag) (mg : Str → Option Value) : Prop where
  h : ∃ h : Heap, K.In h ∧ h.Ns mainGlobals mg
  c : He.SaysD fa fn K
section
variable {K : PySem.W.Frag} {mg : Str → Option Value}
theorem Tx.glo (T : Tx K mg) (i : Nat) {x : Str} (hf : fa[i]? = some (.glo x) := by rfl) : mg x = some (.ref (He.ga K x)) := let ⟨_, X, G⟩ := T.h; He.glo_ok X G (T.c.fact i hf)
theorem Tx.free (T : Tx K mg) (i : Nat) {x : Str} (hf : fa[i]? = some (.free x) := by rfl) : mg x = none := let ⟨_, X, G⟩ := T.h; He.free_ok X G (T.c.fact i hf)
theorem Tx.int (T : Tx K mg) (i : Nat) {x : Str} {n : Int} (hf : fa[i]? = some (.int x n) := by rfl) : ∃ t, mg x = some (.int n t) := let ⟨_, X, G⟩ := T.h; He.int_ok X G (T.c.fact i hf)
theorem Tx.str (T : Tx K mg) (i : Nat) {x z : Str} (hf : fa[i]? = some (.str x z) := by rfl) : ∃ t, mg x = some (.str z t) := let ⟨_, X, G⟩ := T.h; He.str_ok X G (T.c.fact i hf)
end
def sh0 : Shared := {}
/-- what is known of a def -/
structure FX (K : PySem.W.Frag) (w : World) (mg : Str → Option Value) (base : Heap) (k : Nat) (d : He.DefD) (ps : List Str) (m : MF) (f : Addr) (fd : FuncData) : Prop where
  fm : FM (cn K) prg w mg base k f fd ps m
  fd : FunD K d.name d.qual d.params d.body d.scope (He.DefD.dvs K d) (He.DefD.kws K d) f fd
theorem FX.of {K : PySem.W.Frag} {w : World} {mg : Str → Option Value} {base : Heap} {k : Nat} {d : He.DefD} {N ps : List Str} {m : MS} {f : Addr} {fd : FuncData} {body : List Stmt} {scope : Scope} {qual : Str} (hbd : d.body = body) (hsc : d.scope = scope) (hq : d.qual = qual) (F : FunD K d.name d.qual d.params d.body d.scope (He.DefD.dvs K d) (He.DefD.kws K d) f fd) (S : FnScope N ps scope)
    (hr : ∀ e : Env, Room k (callerA.deeper e))
    (hb : ∀ (cdv : Value) (A : Around) (outer : List Env) (s : Shared) (H : Hp) (E : XK), Bn (cxOf (L2.CX prg w) prg w K mg base N qual scope f cdv A outer s H E) (cn K) (fun c d _ H => E c d H) k → PML (cxOf (L2.CX prg w) prg w K mg base N qual scope f cdv A outer s H E) (cn K) (fun c d _ H => E c d H) body m) :
    FX K w mg base (k + 1) d ps (mDef N.length m) f fd := by
  subst hbd hsc hq
  have gm : GdM m := by
    exact (hb .none callerA [] sh0 (fun _ => none) (fun _ _ _ => False) ((bd_of (C := cn K) (E := fun _ _ _ => False) (hr _)).bn S.nd)).gd
  exact ⟨⟨fm_of F S fun cdv A outer s H E B => hb cdv A outer s H E (B.bn S.nd), gd_def gm⟩, F⟩
theorem room0 (k : Nat) (h1 : callerA.depth + 1 + 3 * k + 5 < recursionLimit) (h2 : callerA.units + 3 + 16 * k + 200 < cLine) (e : Env) : Room k (callerA.deeper e) := ⟨rfl, h1, h2⟩

theorem kb_made_good_2_long {K : PySem.W.Frag} {f : Addr} {fd : FuncData} (F : FunD K d_made_good.name d_made_good.qual d_made_good.params d_made_good.body d_made_good.scope (He.DefD.dvs K d_made_good) (He.DefD.kws K d_made_good) f fd) : KBn K fd P_made_good 2 ["long"] gkb_made_good_2_long gkb_made_good_2_long := by
  obtain ⟨oc, od, dV, kV, doc, pm, an, cdv, ct, osl, e, _, _, hd, _⟩ := F.ex
  refine ⟨fun s us ws _ h1 h2 => ?_, fun {vs us zs ws} r1 r2 => (Vals.app r1 r2)⟩
  subst e
  rcases hd with ⟨_, hd⟩ | ⟨hd, _⟩
  · subst hd
    exact match us, ws, h1, h2 with | [_, _], [_], _, _ => .of_eq rfl
  · exact absurd rfl hd
theorem kb_made_good_2_long_rd {K : PySem.W.Frag} : ∀ (rho : List Addr) (F : Addr → Prop) (H : Hp) (vs : List V) (ds : List D) (zs : List V) (fs : List D), RDs (cn K).K rho F H vs ds → RDs (cn K).K rho F H zs fs → ds.length = 2 → fs.length = 1 → RDs (cn K).K rho F H (gkb_made_good_2_long vs zs) (gkb_made_good_2_long ds fs) ∧ (gkb_made_good_2_long ds fs).length = 3 := by
  intro rho F H vs ds zs fs r1 r2 h1 h2
  exact ⟨(r1.append r2), by simp [gkb_made_good_2_long, h1, h2]⟩
theorem kb_stitches_1_long {K : PySem.W.Frag} {f : Addr} {fd : FuncData} (F : FunD K d_stitches.name d_stitches.qual d_stitches.params d_stitches.body d_stitches.scope (He.DefD.dvs K d_stitches) (He.DefD.kws K d_stitches) f fd) : KBn K fd P_stitches 1 ["long"] gkb_stitches_1_long gkb_stitches_1_long := by
  obtain ⟨oc, od, dV, kV, doc, pm, an, cdv, ct, osl, e, _, _, hd, _⟩ := F.ex
  refine ⟨fun s us ws _ h1 h2 => ?_, fun {vs us zs ws} r1 r2 => (Vals.app r1 r2)⟩
  subst e
  rcases hd with ⟨_, hd⟩ | ⟨hd, _⟩
  · subst hd
    exact match us, ws, h1, h2 with | [_], [_], _, _ => .of_eq rfl
  · exact absurd rfl hd
theorem kb_stitches_1_long_rd {K : PySem.W.Frag} : ∀ (rho : List Addr) (F : Addr → Prop) (H : Hp) (vs : List V) (ds : List D) (zs : List V) (fs : List D), RDs (cn K).K rho F H vs ds → RDs (cn K).K rho F H zs fs → ds.length = 1 → fs.length = 1 → RDs (cn K).K rho F H (gkb_stitches_1_long vs zs) (gkb_stitches_1_long ds fs) ∧ (gkb_stitches_1_long ds fs).length = 2 := by
  intro rho F H vs ds zs fs r1 r2 h1 h2
  exact ⟨(r1.append r2), by simp [gkb_stitches_1_long, h1, h2]⟩
theorem kb_gaps_2_long {K : PySem.W.Frag} {f : Addr} {fd : FuncData} (F : FunD K d_gaps.name d_gaps.qual d_gaps.params d_gaps.body d_gaps.scope (He.DefD.dvs K d_gaps) (He.DefD.kws K d_gaps) f fd) : KBn K fd P_gaps 2 ["long"] gkb_gaps_2_long gkb_gaps_2_long := by
  obtain ⟨oc, od, dV, kV, doc, pm, an, cdv, ct, osl, e, _, _, hd, _⟩ := F.ex
  refine ⟨fun s us ws _ h1 h2 => ?_, fun {vs us zs ws} r1 r2 => (Vals.app r1 r2)⟩
  subst e
  rcases hd with ⟨_, hd⟩ | ⟨hd, _⟩
  · subst hd
    exact match us, ws, h1, h2 with | [_, _], [_], _, _ => .of_eq rfl
  · exact absurd rfl hd
theorem kb_gaps_2_long_rd {K : PySem.W.Frag} : ∀ (rho : List Addr) (F : Addr → Prop) (H : Hp) (vs : List V) (ds : List D) (zs : List V) (fs : List D), RDs (cn K).K rho F H vs ds → RDs (cn K).K rho F H zs fs → ds.length = 2 → fs.length = 1 → RDs (cn K).K rho F H (gkb_gaps_2_long vs zs) (gkb_gaps_2_long ds fs) ∧ (gkb_gaps_2_long ds fs).length = 3 := by
  intro rho F H vs ds zs fs r1 r2 h1 h2
  exact ⟨(r1.append r2), by simp [gkb_gaps_2_long, h1, h2]⟩
theorem bd__law_mix {K : PySem.W.Frag} {f : Addr} {fd : FuncData} (F : FunD K d__law_mix.name d__law_mix.qual d__law_mix.params d__law_mix.body d__law_mix.scope (He.DefD.dvs K d__law_mix) (He.DefD.kws K d__law_mix) f fd) : L2.Binds K fd P__law_mix [] := FunD.bindsN (ps := P__law_mix) F fun _ _ _ _ _ _ us hl => match us, hl with | [_, _], _ => rfl
theorem bd__law_next {K : PySem.W.Frag} {f : Addr} {fd : FuncData} (F : FunD K d__law_next.name d__law_next.qual d__law_next.params d__law_next.body d__law_next.scope (He.DefD.dvs K d__law_next) (He.DefD.kws K d__law_next) f fd) : L2.Binds K fd P__law_next [] := FunD.bindsN (ps := P__law_next) F fun _ _ _ _ _ _ us hl => match us, hl with | [_, _], _ => rfl
theorem bd__law_picture {K : PySem.W.Frag} {f : Addr} {fd : FuncData} (F : FunD K d__law_picture.name d__law_picture.qual d__law_picture.params d__law_picture.body d__law_picture.scope (He.DefD.dvs K d__law_picture) (He.DefD.kws K d__law_picture) f fd) : L2.Binds K fd P__law_picture [] := FunD.bindsN (ps := P__law_picture) F fun _ _ _ _ _ _ us hl => match us, hl with | [_, _, _], _ => rfl
theorem bd_drawn_in {K : PySem.W.Frag} {f : Addr} {fd : FuncData} (F : FunD K d_drawn_in.name d_drawn_in.qual d_drawn_in.params d_drawn_in.body d_drawn_in.scope (He.DefD.dvs K d_drawn_in) (He.DefD.kws K d_drawn_in) f fd) : L2.Binds K fd P_drawn_in [] := FunD.bindsN (ps := P_drawn_in) F fun _ _ _ _ _ _ us hl => match us, hl with | [_, _, _], _ => rfl
theorem bd_need_count {K : PySem.W.Frag} {f : Addr} {fd : FuncData} (F : FunD K d_need_count.name d_need_count.qual d_need_count.params d_need_count.body d_need_count.scope (He.DefD.dvs K d_need_count) (He.DefD.kws K d_need_count) f fd) : L2.Binds K fd P_need_count [] := FunD.bindsN (ps := P_need_count) F fun _ _ _ _ _ _ us hl => match us, hl with | [_, _, _], _ => rfl
theorem bd_need_picture {K : PySem.W.Frag} {f : Addr} {fd : FuncData} (F : FunD K d_need_picture.name d_need_picture.qual d_need_picture.params d_need_picture.body d_need_picture.scope (He.DefD.dvs K d_need_picture) (He.DefD.kws K d_need_picture) f fd) : L2.Binds K fd P_need_picture [] := FunD.bindsN (ps := P_need_picture) F fun _ _ _ _ _ _ us hl => match us, hl with | [_], _ => rfl
theorem bd_runs_of {K : PySem.W.Frag} {f : Addr} {fd : FuncData} (F : FunD K d_runs_of.name d_runs_of.qual d_runs_of.params d_runs_of.body d_runs_of.scope (He.DefD.dvs K d_runs_of) (He.DefD.kws K d_runs_of) f fd) : L2.Binds K fd P_runs_of [] := FunD.bindsN (ps := P_runs_of) F fun _ _ _ _ _ _ us hl => match us, hl with | [_], _ => rfl
theorem bd_stitches_of {K : PySem.W.Frag} {f : Addr} {fd : FuncData} (F : FunD K d_stitches_of.name d_stitches_of.qual d_stitches_of.params d_stitches_of.body d_stitches_of.scope (He.DefD.dvs K d_stitches_of) (He.DefD.kws K d_stitches_of) f fd) : L2.Binds K fd P_stitches_of [] := FunD.bindsN (ps := P_stitches_of) F fun _ _ _ _ _ _ us hl => match us, hl with | [_, _], _ => rfl
theorem bd_law {K : PySem.W.Frag} {f : Addr} {fd : FuncData} (F : FunD K d_law.name d_law.qual d_law.params d_law.body d_law.scope (He.DefD.dvs K d_law) (He.DefD.kws K d_law) f fd) : L2.Binds K fd P_law [] := FunD.bindsN (ps := P_law) F fun _ _ _ _ _ _ us hl => match us, hl with | [_], _ => rfl
theorem ok__law_mix {K : PySem.W.Frag} {w : World} {mg : Str → Option Value} {base : Heap} (T : Tx K mg) {f : Addr} {fd : FuncData} (F : FunD K d__law_mix.name d__law_mix.qual d__law_mix.params d__law_mix.body d__law_mix.scope (He.DefD.dvs K d__law_mix) (He.DefD.kws K d__law_mix) f fd)
   : FX K w mg base 1 d__law_mix P__law_mix f__law_mix f fd := by
  show FX K w mg base (0 + 1) d__law_mix P__law_mix (mDef (List.length N__law_mix) b__law_mix) f fd
  refine FX.of (m := b__law_mix) (body := ?body) (scope := ?scope) (qual := d__law_mix.qual) ?hbd ?hsc rfl F ?S (room0 0 (by decide) (by decide)) ?hb
  case hbd => conv => lhs; whnf
  case hsc => conv => lhs; whnf
  case S => exact sc__law_mix
  case hb =>
  intro cdv A outer s H E B
  exact (ml_cons (ms_set 2 (me_v 1) B.nd)
  (ml_cons (ms_wipe [3] (ms_for B.hp B.hc (mi_list B.hK (me_v 0)) (mg_name 3 B.nd) (ml_wipe [3] (ml_one (ms_set 2 (me_bin op_modD (me_bin (op_addD B.hK) (me_bin (op_addD B.hK) (me_bin op_mulM (me_v 2) me_int) (me_bin op_modD (me_v 3) me_int)) me_int) me_int) B.nd)))))
  (ml_one (ms_ret (me_lstM (ma_cons (me_v 2) (ma_cons (me_listM B.hK (T.free 10) (ma_cons (me_v 0) ma_nil)) (ma_cons me_int ma_nil))))))))
theorem ok__law_next {K : PySem.W.Frag} {w : World} {mg : Str → Option Value} {base : Heap} (T : Tx K mg) {f : Addr} {fd : FuncData} (F : FunD K d__law_next.name d__law_next.qual d__law_next.params d__law_next.body d__law_next.scope (He.DefD.dvs K d__law_next) (He.DefD.kws K d__law_next) f fd)
   : FX K w mg base 1 d__law_next P__law_next f__law_next f fd := by
  show FX K w mg base (0 + 1) d__law_next P__law_next (mDef (List.length N__law_next) b__law_next) f fd
  refine FX.of (m := b__law_next) (body := ?body) (scope := ?scope) (qual := d__law_next.qual) ?hbd ?hsc rfl F ?S (room0 0 (by decide) (by decide)) ?hb
  case hbd => conv => lhs; whnf
  case hsc => conv => lhs; whnf
  case S => exact sc__law_next
  case hb =>
  intro cdv A outer s H E B
  exact (ml_cons (ms_set 2 (me_ix B.hK (me_bin (op_addD B.hK) (me_ix B.hK (me_v 0) me_int) (me_lstF (ma_cons me_int ma_nil))) (me_bin op_modD (me_ix B.hK (me_v 0) me_int) (me_blt (cr_max2 B.hc) (T.free 11) (ma_cons me_int (ma_cons (me_blt cr_len (T.free 6) (ma_cons (me_ix B.hK (me_v 0) me_int) ma_nil)) ma_nil))))) B.nd)
  (ml_cons (ms_if (mb_cmp op_geM (me_v 2) (me_bin op_powD me_int me_int) (nomark _)) (ml_cons (ms_asg (me_bin op_divD (me_v 2) (me_v 1)) (mg_ix (me_ix B.hK (me_v 0) me_int) (me_bin op_modD (me_ix B.hK (me_v 0) me_int) (me_blt cr_len (T.free 6) (ma_cons (me_ix B.hK (me_v 0) me_int) ma_nil)))))
  (ml_one (ms_ret (me_bin op_modD (me_v 2) (me_v 1))))) ml_nil)
  (ml_cons (ms_asg (me_bin op_modD (me_bin (op_addD B.hK) (me_bin (op_addD B.hK) (me_bin op_mulM (me_ix B.hK (me_v 0) me_int) me_int) (me_bin op_mulM (me_v 2) me_int)) me_int) me_int) (mg_ix (me_v 0) me_int))
  (ml_cons (ms_asg (me_bin (op_addD B.hK) (me_ix B.hK (me_v 0) me_int) me_int) (mg_ix (me_v 0) me_int))
  (ml_one (ms_ret (me_bin op_modD (me_bin op_divD (me_ix B.hK (me_v 0) me_int) me_int) (me_v 1))))))))
theorem ok__law_picture {K : PySem.W.Frag} {w : World} {mg : Str → Option Value} {base : Heap} (T : Tx K mg) {f : Addr} {fd : FuncData} (F : FunD K d__law_picture.name d__law_picture.qual d__law_picture.params d__law_picture.body d__law_picture.scope (He.DefD.dvs K d__law_picture) (He.DefD.kws K d__law_picture) f fd)
  {fd__law_next : FuncData} (F__law_next : FX K w mg base 1 d__law_next P__law_next f__law_next (He.fAd K d__law_next.at_) fd__law_next) : FX K w mg base 2 d__law_picture P__law_picture f__law_picture f fd := by
  show FX K w mg base (1 + 1) d__law_picture P__law_picture (mDef (List.length N__law_picture) b__law_picture) f fd
  refine FX.of (m := b__law_picture) (body := ?body) (scope := ?scope) (qual := d__law_picture.qual) ?hbd ?hsc rfl F ?S (room0 1 (by decide) (by decide)) ?hb
  case hbd => conv => lhs; whnf
  case hsc => conv => lhs; whnf
  case S => exact sc__law_picture
  case hb =>
  intro cdv A outer s H E B
  exact (ml_cons (ms_par 3 4 (ma_cons (me_bin (op_addD B.hK) me_int (me_call B.toBd F__law_next.fm.clean (by decide) (T.glo 2) F__law_next.fd.kp (bd__law_next F__law_next.fd) .nil (fun _ _ _ => .nil) (ma_cons (me_v 0) (ma_cons (me_v 1) ma_nil)))) (ma_cons (me_bin (op_addD B.hK) me_int (me_call B.toBd F__law_next.fm.clean (by decide) (T.glo 2) F__law_next.fd.kp (bd__law_next F__law_next.fd) .nil (fun _ _ _ => .nil) (ma_cons (me_v 0) (ma_cons (me_v 1) ma_nil)))) ma_nil)) B.hc B.nd)
  (ml_cons (ms_set 5 (me_lstM ma_nil) B.nd)
  (ml_cons (ms_wipe [6, 7, 8, 9] (ms_for B.hp B.hc (mi_range1 rfl (T.free 1) (ma_cons (me_v 3) ma_nil)) (mg_name 6 B.nd) (ml_wipe [6, 7, 8, 9] (ml_cons (ms_asg (me_tup (ma_cons (me_str []) (ma_cons (me_str [46]) ma_nil))) (mg_tup B.hK B.hc (mgs_cons (mg_name 7 B.nd) (mgs_cons (mg_name 8 B.nd) mgs_nil))))
  (ml_cons (ms_wipe [8, 9] (ms_for B.hp B.hc (mi_range1 rfl (T.free 1) (ma_cons (me_v 4) ma_nil)) (mg_name 9 B.nd) (ml_wipe [9] (ml_cons (ms_if (mb_cmp op_gtM (me_call B.toBd F__law_next.fm.clean (by decide) (T.glo 2) F__law_next.fd.kp (bd__law_next F__law_next.fd) .nil (fun _ _ _ => .nil) (ma_cons (me_v 0) (ma_cons me_int ma_nil))) me_int (nomark _)) (ml_one (ms_set 8 (me_ix B.hK (me_str [46, 97, 98, 99, 100, 101, 102]) (me_call B.toBd F__law_next.fm.clean (by decide) (T.glo 2) F__law_next.fd.kp (bd__law_next F__law_next.fd) .nil (fun _ _ _ => .nil) (ma_cons (me_v 0) (ma_cons (me_bin (op_addD B.hK) (me_v 2) me_int) ma_nil)))) B.nd)) ml_nil)
  (ml_one (ms_set 7 (me_bin (op_addD B.hK) (me_v 7) (me_v 8)) B.nd))))))
  (ml_one (ms_expr (me_app (me_v 5) (me_v 7)))))))))
  (ml_one (ms_ret (me_bltT cr_tupF (T.free 12) (ma_cons (me_v 5) ma_nil)))))))
theorem ok_drawn_in {K : PySem.W.Frag} {w : World} {mg : Str → Option Value} {base : Heap} (T : Tx K mg) {f : Addr} {fd : FuncData} (F : FunD K d_drawn_in.name d_drawn_in.qual d_drawn_in.params d_drawn_in.body d_drawn_in.scope (He.DefD.dvs K d_drawn_in) (He.DefD.kws K d_drawn_in) f fd)
   : FX K w mg base 1 d_drawn_in P_drawn_in f_drawn_in f fd := by
  show FX K w mg base (0 + 1) d_drawn_in P_drawn_in (mDef (List.length N_drawn_in) b_drawn_in) f fd
  refine FX.of (m := b_drawn_in) (body := ?body) (scope := ?scope) (qual := d_drawn_in.qual) ?hbd ?hsc rfl F ?S (room0 0 (by decide) (by decide)) ?hb
  case hbd => conv => lhs; whnf
  case hsc => conv => lhs; whnf
  case S => exact sc_drawn_in
  case hb =>
  intro cdv A outer s H E B
  exact (ml_one (ms_ret (me_bin op_divD (me_bin op_mulM (me_bin (op_addD B.hK) (me_bin op_mulM (me_v 0) (me_gint (T.int 19))) (me_bin op_mulM me_int (me_v 1))) (me_v 2)) (me_bin op_mulM me_int (me_gint (T.int 19))))))
theorem ok_need_count {K : PySem.W.Frag} {w : World} {mg : Str → Option Value} {base : Heap} (T : Tx K mg) {f : Addr} {fd : FuncData} (F : FunD K d_need_count.name d_need_count.qual d_need_count.params d_need_count.body d_need_count.scope (He.DefD.dvs K d_need_count) (He.DefD.kws K d_need_count) f fd)
   : FX K w mg base 1 d_need_count P_need_count f_need_count f fd := by
  show FX K w mg base (0 + 1) d_need_count P_need_count (mDef (List.length N_need_count) b_need_count) f fd
  refine FX.of (m := b_need_count) (body := ?body) (scope := ?scope) (qual := d_need_count.qual) ?hbd ?hsc rfl F ?S (room0 0 (by decide) (by decide)) ?hb
  case hbd => conv => lhs; whnf
  case hsc => conv => lhs; whnf
  case S => exact sc_need_count
  case hb =>
  intro cdv A outer s H E B
  exact (ml_one (ms_if (mb_not (mb_chain op_leM op_leM (me_v 1) (me_v 0) (me_v 2))) (ml_one ms_err) ml_nil))
theorem ok_need_picture {K : PySem.W.Frag} {w : World} {mg : Str → Option Value} {base : Heap} (T : Tx K mg) {f : Addr} {fd : FuncData} (F : FunD K d_need_picture.name d_need_picture.qual d_need_picture.params d_need_picture.body d_need_picture.scope (He.DefD.dvs K d_need_picture) (He.DefD.kws K d_need_picture) f fd)
   : FX K w mg base 1 d_need_picture P_need_picture f_need_picture f fd := by
  show FX K w mg base (0 + 1) d_need_picture P_need_picture (mDef (List.length N_need_picture) b_need_picture) f fd
  refine FX.of (m := b_need_picture) (body := ?body) (scope := ?scope) (qual := d_need_picture.qual) ?hbd ?hsc rfl F ?S (room0 0 (by decide) (by decide)) ?hb
  case hbd => conv => lhs; whnf
  case hsc => conv => lhs; whnf
  case S => exact sc_need_picture
  case hb =>
  intro cdv A outer s H E B
  exact (ml_cons (ms_if (mb_not (mb_chain op_leM op_leM me_int (me_blt cr_len (T.free 6) (ma_cons (me_v 0) ma_nil)) (me_gint (T.int 20)))) (ml_one ms_err) ml_nil)
  (ml_one (ms_wipe [1, 2] (ms_for B.hp B.hc (mi_enumT (T.free 21) (ma_cons (me_v 0) ma_nil)) (mg_tup B.hK B.hc (mgs_cons (mg_name 1 B.nd) (mgs_cons (mg_name 2 B.nd) mgs_nil))) (ml_wipe [1, 2] (ml_cons (ms_if (PMW.pmb (mw_or (mb_not (mb_chain op_leM op_leM me_int (me_blt cr_len (T.free 6) (ma_cons (me_v 2) ma_nil)) (me_gint (T.int 20)))) (mw_or1 (mb_cmp (op_neM B.hK B.hu) (me_blt cr_len (T.free 6) (ma_cons (me_v 2) ma_nil)) (me_blt cr_len (T.free 6) (ma_cons (me_ix B.hK (me_v 0) me_int) ma_nil)) (nomark _))))) (ml_one ms_err) ml_nil)
  (ml_one (ms_if (mb_not (mb_truth B.hK (me_blt (cr_allF B.hc) (T.free 24) (ma_cons (me_lcB (own := [("sign", 3)]) B (mi_str (me_v 2)) (blkOk_by (N := N_need_picture) (sc := He.DefD.scope d_need_picture) (own := [("sign", 3)]) (by first | decide +kernel | rfl)) (fun _ _ _ _ _ B => (mc_name 3 B.nd (by decide))) (fun _ _ _ _ _ B => mts_nil) (fun _ _ _ _ _ B => (me_or (me_cmp (op_eqM B.hK B.hu) (me_v 3) (me_gstr [46] (T.str 22)) (nomark _)) (me_one (me_cmp (op_inM B.hK B.hu65) (me_v 3) (me_gstr [97, 98, 99, 100, 101, 102] (T.str 23)) (by with_unfolding_all rfl)))))) ma_nil)))) (ml_one ms_err) ml_nil))))))))
theorem ok_runs_of {K : PySem.W.Frag} {w : World} {mg : Str → Option Value} {base : Heap} (T : Tx K mg) {f : Addr} {fd : FuncData} (F : FunD K d_runs_of.name d_runs_of.qual d_runs_of.params d_runs_of.body d_runs_of.scope (He.DefD.dvs K d_runs_of) (He.DefD.kws K d_runs_of) f fd)
   : FX K w mg base 1 d_runs_of P_runs_of f_runs_of f fd := by
  show FX K w mg base (0 + 1) d_runs_of P_runs_of (mDef (List.length N_runs_of) b_runs_of) f fd
  refine FX.of (m := b_runs_of) (body := ?body) (scope := ?scope) (qual := d_runs_of.qual) ?hbd ?hsc rfl F ?S (room0 0 (by decide) (by decide)) ?hb
  case hbd => conv => lhs; whnf
  case hsc => conv => lhs; whnf
  case S => exact sc_runs_of
  case hb =>
  intro cdv A outer s H E B
  exact (ml_cons (ms_set 1 (me_lstM ma_nil) B.nd)
  (ml_cons (ms_wipe [2, 3, 4, 5] (ms_for B.hp B.hc (mi_enumT (T.free 21) (ma_cons (me_v 0) ma_nil)) (mg_tup B.hK B.hc (mgs_cons (mg_name 2 B.nd) (mgs_cons (mg_name 3 B.nd) mgs_nil))) (ml_wipe [2, 3, 4, 5] (ml_cons (ms_set 4 me_int B.nd)
  (ml_one (ms_wipe [4, 5] (ms_for B.hp B.hc (mi_range2 rfl (T.free 1) (ma_cons me_int (ma_cons (me_bin (op_addD B.hK) (me_blt cr_len (T.free 6) (ma_cons (me_v 3) ma_nil)) me_int) ma_nil))) (mg_name 5 B.nd) (ml_wipe [5] (ml_one (ms_if (PMW.pmb (mw_or (mb_cmp (op_eqM B.hK B.hu) (me_v 5) (me_blt cr_len (T.free 6) (ma_cons (me_v 3) ma_nil)) (nomark _)) (mw_or1 (mb_cmp (op_neM B.hK B.hu) (me_ix B.hK (me_v 3) (me_v 5)) (me_ix B.hK (me_v 3) (me_v 4)) (nomark _))))) (ml_cons (ms_if (mb_cmp (op_neM B.hK B.hu) (me_ix B.hK (me_v 3) (me_v 4)) (me_gstr [46] (T.str 22)) (nomark _)) (ml_one (ms_expr (me_app (me_v 1) (me_tup (ma_cons (me_v 2) (ma_cons (me_v 4) (ma_cons (me_v 5) (ma_cons (me_ix B.hK (me_v 3) (me_v 4)) ma_nil)))))))) ml_nil)
  (ml_one (ms_set 4 (me_v 5) B.nd))) ml_nil))))))))))
  (ml_one (ms_ret (me_v 1)))))
theorem ok_stitches_of {K : PySem.W.Frag} {w : World} {mg : Str → Option Value} {base : Heap} (T : Tx K mg) {f : Addr} {fd : FuncData} (F : FunD K d_stitches_of.name d_stitches_of.qual d_stitches_of.params d_stitches_of.body d_stitches_of.scope (He.DefD.dvs K d_stitches_of) (He.DefD.kws K d_stitches_of) f fd)
  {fd_runs_of : FuncData} (F_runs_of : FX K w mg base 1 d_runs_of P_runs_of f_runs_of (He.fAd K d_runs_of.at_) fd_runs_of) : FX K w mg base 2 d_stitches_of P_stitches_of f_stitches_of f fd := by
  show FX K w mg base (1 + 1) d_stitches_of P_stitches_of (mDef (List.length N_stitches_of) b_stitches_of) f fd
  refine FX.of (m := b_stitches_of) (body := ?body) (scope := ?scope) (qual := d_stitches_of.qual) ?hbd ?hsc rfl F ?S (room0 1 (by decide) (by decide)) ?hb
  case hbd => conv => lhs; whnf
  case hsc => conv => lhs; whnf
  case S => exact sc_stitches_of
  case hb =>
  intro cdv A outer s H E B
  exact (ml_cons (ms_set 2 (me_lstM ma_nil) B.nd)
  (ml_cons (ms_wipe [3, 4, 5, 6] (ms_for B.hp B.hc (mi_list B.hK (me_call B.toBd F_runs_of.fm.clean (by decide) (T.glo 25) F_runs_of.fd.kp (bd_runs_of F_runs_of.fd) .nil (fun _ _ _ => .nil) (ma_cons (me_v 0) ma_nil))) (mg_tup B.hK B.hc (mgs_cons (mg_name 3 B.nd) (mgs_cons (mg_name 4 B.nd) (mgs_cons (mg_name 5 B.nd) (mgs_cons (mg_name 6 B.nd) mgs_nil))))) (ml_wipe [3, 4, 5, 6] (ml_cons (ms_while 1000 B.hp (mb_cmp op_gtM (me_bin op_subD (me_v 5) (me_v 4)) (me_v 1) (nomark _)) (ml_cons (ms_expr (me_app (me_v 2) (me_tup (ma_cons (me_v 3) (ma_cons (me_v 4) (ma_cons (me_bin (op_addD B.hK) (me_v 4) (me_v 1)) (ma_cons (me_v 6) ma_nil)))))))
  (ml_one (ms_aug 4 ip_addD (me_v 1) B.nd))))
  (ml_one (ms_expr (me_app (me_v 2) (me_tup (ma_cons (me_v 3) (ma_cons (me_v 4) (ma_cons (me_v 5) (ma_cons (me_v 6) ma_nil))))))))))))
  (ml_one (ms_ret (me_v 2)))))
theorem ok_gaps {K : PySem.W.Frag} {w : World} {mg : Str → Option Value} {base : Heap} (T : Tx K mg) {f : Addr} {fd : FuncData} (F : FunD K d_gaps.name d_gaps.qual d_gaps.params d_gaps.body d_gaps.scope (He.DefD.dvs K d_gaps) (He.DefD.kws K d_gaps) f fd)
  {fd_drawn_in : FuncData} (F_drawn_in : FX K w mg base 1 d_drawn_in P_drawn_in f_drawn_in (He.fAd K d_drawn_in.at_) fd_drawn_in) {fd_need_count : FuncData} (F_need_count : FX K w mg base 1 d_need_count P_need_count f_need_count (He.fAd K d_need_count.at_) fd_need_count) {fd_need_picture : FuncData} (F_need_picture : FX K w mg base 1 d_need_picture P_need_picture f_need_picture (He.fAd K d_need_picture.at_) fd_need_picture) {fd_stitches_of : FuncData} (F_stitches_of : FX K w mg base 2 d_stitches_of P_stitches_of f_stitches_of (He.fAd K d_stitches_of.at_) fd_stitches_of) : FX K w mg base 3 d_gaps P_gaps f_gaps f fd := by
  show FX K w mg base (2 + 1) d_gaps P_gaps (mDef (List.length N_gaps) b_gaps) f fd
  refine FX.of (m := b_gaps) (body := ?body) (scope := ?scope) (qual := d_gaps.qual) ?hbd ?hsc rfl F ?S (room0 2 (by decide) (by decide)) ?hb
  case hbd => conv => lhs; whnf
  case hsc => conv => lhs; whnf
  case S => exact sc_gaps
  case hb =>
  intro cdv A outer s H E B
  exact (ml_cons (ms_expr (me_call B.toBd F_need_picture.fm.clean (by decide) (T.glo 13) F_need_picture.fd.kp (bd_need_picture F_need_picture.fd) .nil (fun _ _ _ => .nil) (ma_cons (me_v 0) ma_nil)))
  (ml_cons (ms_expr (me_call B.toBd F_need_count.fm.clean (by decide) (T.glo 14) F_need_count.fd.kp (bd_need_count F_need_count.fd) .nil (fun _ _ _ => .nil) (ma_cons (me_v 1) (ma_cons me_int (ma_cons (me_gint (T.int 15)) ma_nil)))))
  (ml_cons (ms_expr (me_call B.toBd F_need_count.fm.clean (by decide) (T.glo 14) F_need_count.fd.kp (bd_need_count F_need_count.fd) .nil (fun _ _ _ => .nil) (ma_cons (me_v 2) (ma_cons me_int (ma_cons (me_gint (T.int 16)) ma_nil)))))
  (ml_cons (ms_set 3 (me_lstM ma_nil) B.nd)
  (ml_cons (ms_wipe [4, 5, 6, 7, 8] (ms_for B.hp B.hc (mi_list B.hK (me_call B.toBd F_stitches_of.fm.clean (by decide) (T.glo 17) F_stitches_of.fd.kp (bd_stitches_of F_stitches_of.fd) .nil (fun _ _ _ => .nil) (ma_cons (me_v 0) (ma_cons (me_v 2) ma_nil)))) (mg_tup B.hK B.hc (mgs_cons (mg_name 4 B.nd) (mgs_cons (mg_name 5 B.nd) (mgs_cons (mg_name 6 B.nd) (mgs_cons (mg_name 7 B.nd) mgs_nil))))) (ml_wipe [4, 5, 6, 7, 8] (ml_cons (ms_set 8 (me_call B.toBd F_drawn_in.fm.clean (by decide) (T.glo 18) F_drawn_in.fd.kp (bd_drawn_in F_drawn_in.fd) .nil (fun _ _ _ => .nil) (ma_cons (me_bin op_subD (me_v 6) (me_v 5)) (ma_cons me_int (ma_cons (me_v 1) ma_nil)))) B.nd)
  (ml_one (ms_if (mb_cmp op_gtM (me_v 8) me_int (nomark _)) (ml_cons (ms_expr (me_app (me_v 3) (me_tup (ma_cons (me_v 4) (ma_cons (me_bin op_mulM (me_v 5) (me_gint (T.int 19))) (ma_cons (me_bin (op_addD B.hK) (me_bin op_mulM (me_v 5) (me_gint (T.int 19))) (me_v 8)) ma_nil))))))
  (ml_one (ms_expr (me_app (me_v 3) (me_tup (ma_cons (me_v 4) (ma_cons (me_bin op_subD (me_bin op_mulM (me_v 6) (me_gint (T.int 19))) (me_v 8)) (ma_cons (me_bin op_mulM (me_v 6) (me_gint (T.int 19))) ma_nil)))))))) ml_nil))))))
  (ml_one (ms_ret (me_v 3))))))))
theorem ok_made_good {K : PySem.W.Frag} {w : World} {mg : Str → Option Value} {base : Heap} (T : Tx K mg) {f : Addr} {fd : FuncData} (F : FunD K d_made_good.name d_made_good.qual d_made_good.params d_made_good.body d_made_good.scope (He.DefD.dvs K d_made_good) (He.DefD.kws K d_made_good) f fd)
  {fd_drawn_in : FuncData} (F_drawn_in : FX K w mg base 1 d_drawn_in P_drawn_in f_drawn_in (He.fAd K d_drawn_in.at_) fd_drawn_in) {fd_need_count : FuncData} (F_need_count : FX K w mg base 1 d_need_count P_need_count f_need_count (He.fAd K d_need_count.at_) fd_need_count) {fd_need_picture : FuncData} (F_need_picture : FX K w mg base 1 d_need_picture P_need_picture f_need_picture (He.fAd K d_need_picture.at_) fd_need_picture) {fd_stitches_of : FuncData} (F_stitches_of : FX K w mg base 2 d_stitches_of P_stitches_of f_stitches_of (He.fAd K d_stitches_of.at_) fd_stitches_of) : FX K w mg base 3 d_made_good P_made_good f_made_good f fd := by
  show FX K w mg base (2 + 1) d_made_good P_made_good (mDef (List.length N_made_good) b_made_good) f fd
  refine FX.of (m := b_made_good) (body := ?body) (scope := ?scope) (qual := d_made_good.qual) ?hbd ?hsc rfl F ?S (room0 2 (by decide) (by decide)) ?hb
  case hbd => conv => lhs; whnf
  case hsc => conv => lhs; whnf
  case S => exact sc_made_good
  case hb =>
  intro cdv A outer s H E B
  exact (ml_cons (ms_expr (me_call B.toBd F_need_picture.fm.clean (by decide) (T.glo 13) F_need_picture.fd.kp (bd_need_picture F_need_picture.fd) .nil (fun _ _ _ => .nil) (ma_cons (me_v 0) ma_nil)))
  (ml_cons (ms_expr (me_call B.toBd F_need_count.fm.clean (by decide) (T.glo 14) F_need_count.fd.kp (bd_need_count F_need_count.fd) .nil (fun _ _ _ => .nil) (ma_cons (me_v 1) (ma_cons me_int (ma_cons (me_gint (T.int 15)) ma_nil)))))
  (ml_cons (ms_expr (me_call B.toBd F_need_count.fm.clean (by decide) (T.glo 14) F_need_count.fd.kp (bd_need_count F_need_count.fd) .nil (fun _ _ _ => .nil) (ma_cons (me_v 2) (ma_cons me_int (ma_cons (me_gint (T.int 16)) ma_nil)))))
  (ml_cons (ms_set 3 (me_lstM ma_nil) B.nd)
  (ml_cons (ms_wipe [4, 5, 6, 7, 8] (ms_for B.hp B.hc (mi_list B.hK (me_call B.toBd F_stitches_of.fm.clean (by decide) (T.glo 17) F_stitches_of.fd.kp (bd_stitches_of F_stitches_of.fd) .nil (fun _ _ _ => .nil) (ma_cons (me_v 0) (ma_cons (me_v 2) ma_nil)))) (mg_tup B.hK B.hc (mgs_cons (mg_name 4 B.nd) (mgs_cons (mg_name 5 B.nd) (mgs_cons (mg_name 6 B.nd) (mgs_cons (mg_name 7 B.nd) mgs_nil))))) (ml_wipe [4, 5, 6, 7, 8] (ml_cons (ms_set 8 me_int B.nd)
  (ml_cons (ms_while 1000 B.hp (mb_cmp op_gtM (me_call B.toBd F_drawn_in.fm.clean (by decide) (T.glo 18) F_drawn_in.fd.kp (bd_drawn_in F_drawn_in.fd) .nil (fun _ _ _ => .nil) (ma_cons (me_bin op_subD (me_v 6) (me_v 5)) (ma_cons (me_v 8) (ma_cons (me_v 1) ma_nil)))) (me_v 8) (nomark _)) (ml_one (ms_set 8 (me_call B.toBd F_drawn_in.fm.clean (by decide) (T.glo 18) F_drawn_in.fd.kp (bd_drawn_in F_drawn_in.fd) .nil (fun _ _ _ => .nil) (ma_cons (me_bin op_subD (me_v 6) (me_v 5)) (ma_cons (me_v 8) (ma_cons (me_v 1) ma_nil)))) B.nd)))
  (ml_one (ms_expr (me_app (me_v 3) (me_v 8)))))))))
  (ml_one (ms_ret (me_v 3))))))))
theorem ok_stitches {K : PySem.W.Frag} {w : World} {mg : Str → Option Value} {base : Heap} (T : Tx K mg) {f : Addr} {fd : FuncData} (F : FunD K d_stitches.name d_stitches.qual d_stitches.params d_stitches.body d_stitches.scope (He.DefD.dvs K d_stitches) (He.DefD.kws K d_stitches) f fd)
  {fd_need_count : FuncData} (F_need_count : FX K w mg base 1 d_need_count P_need_count f_need_count (He.fAd K d_need_count.at_) fd_need_count) {fd_need_picture : FuncData} (F_need_picture : FX K w mg base 1 d_need_picture P_need_picture f_need_picture (He.fAd K d_need_picture.at_) fd_need_picture) {fd_stitches_of : FuncData} (F_stitches_of : FX K w mg base 2 d_stitches_of P_stitches_of f_stitches_of (He.fAd K d_stitches_of.at_) fd_stitches_of) : FX K w mg base 3 d_stitches P_stitches f_stitches f fd := by
  show FX K w mg base (2 + 1) d_stitches P_stitches (mDef (List.length N_stitches) b_stitches) f fd
  refine FX.of (m := b_stitches) (body := ?body) (scope := ?scope) (qual := d_stitches.qual) ?hbd ?hsc rfl F ?S (room0 2 (by decide) (by decide)) ?hb
  case hbd => conv => lhs; whnf
  case hsc => conv => lhs; whnf
  case S => exact sc_stitches
  case hb =>
  intro cdv A outer s H E B
  exact (ml_cons (ms_expr (me_call B.toBd F_need_picture.fm.clean (by decide) (T.glo 13) F_need_picture.fd.kp (bd_need_picture F_need_picture.fd) .nil (fun _ _ _ => .nil) (ma_cons (me_v 0) ma_nil)))
  (ml_cons (ms_expr (me_call B.toBd F_need_count.fm.clean (by decide) (T.glo 14) F_need_count.fd.kp (bd_need_count F_need_count.fd) .nil (fun _ _ _ => .nil) (ma_cons (me_v 1) (ma_cons me_int (ma_cons (me_gint (T.int 16)) ma_nil)))))
  (ml_one (ms_ret (me_call B.toBd F_stitches_of.fm.clean (by decide) (T.glo 17) F_stitches_of.fd.kp (bd_stitches_of F_stitches_of.fd) .nil (fun _ _ _ => .nil) (ma_cons (me_v 0) (ma_cons (me_v 1) ma_nil)))))))
theorem ok_law {K : PySem.W.Frag} {w : World} {mg : Str → Option Value} {base : Heap} (T : Tx K mg) {f : Addr} {fd : FuncData} (F : FunD K d_law.name d_law.qual d_law.params d_law.body d_law.scope (He.DefD.dvs K d_law) (He.DefD.kws K d_law) f fd)
  {fd__law_mix : FuncData} (F__law_mix : FX K w mg base 1 d__law_mix P__law_mix f__law_mix (He.fAd K d__law_mix.at_) fd__law_mix) {fd__law_next : FuncData} (F__law_next : FX K w mg base 1 d__law_next P__law_next f__law_next (He.fAd K d__law_next.at_) fd__law_next) {fd__law_picture : FuncData} (F__law_picture : FX K w mg base 2 d__law_picture P__law_picture f__law_picture (He.fAd K d__law_picture.at_) fd__law_picture) {fd_gaps : FuncData} (F_gaps : FX K w mg base 3 d_gaps P_gaps f_gaps (He.fAd K d_gaps.at_) fd_gaps) {fd_made_good : FuncData} (F_made_good : FX K w mg base 3 d_made_good P_made_good f_made_good (He.fAd K d_made_good.at_) fd_made_good) {fd_stitches : FuncData} (F_stitches : FX K w mg base 3 d_stitches P_stitches f_stitches (He.fAd K d_stitches.at_) fd_stitches) : FX K w mg base 4 d_law P_law f_law f fd := by
  show FX K w mg base (3 + 1) d_law P_law (mDef (List.length N_law) b_law) f fd
  refine FX.of (m := b_law) (body := ?body) (scope := ?scope) (qual := d_law.qual) ?hbd ?hsc rfl F ?S (room0 3 (by decide) (by decide)) ?hb
  case hbd => conv => lhs; whnf
  case hsc => conv => lhs; whnf
  case S => exact sc_law
  case hb =>
  intro cdv A outer s H E B
  exact (ml_cons (ms_set 1 (me_call B.toBd F__law_mix.fm (by decide) (T.glo 0) F__law_mix.fd.kp (bd__law_mix F__law_mix.fd) .nil (fun _ _ _ => .nil) (ma_cons (me_v 0) (ma_cons me_int ma_nil))) B.nd)
  (ml_cons (ms_wipe [2, 3, 4, 5, 6, 7, 8, 9, 10, 11, 12, 13, 14, 15, 16] (ms_for B.hp B.hc (mi_range1 rfl (T.free 1) (ma_cons me_int ma_nil)) (mg_name 2 B.nd) (ml_wipe [2, 3, 4, 5, 6, 7, 8, 9, 10, 11, 12, 13, 14, 15, 16] (ml_cons (ms_par3 3 4 5 (ma_cons (me_call B.toBd F__law_picture.fm.clean (by decide) (T.glo 3) F__law_picture.fd.kp (bd__law_picture F__law_picture.fd) .nil (fun _ _ _ => .nil) (ma_cons (me_v 1) (ma_cons me_int (ma_cons me_int ma_nil)))) (ma_cons (me_bin (op_addD B.hK) me_int (me_call B.toBd F__law_next.fm.clean (by decide) (T.glo 2) F__law_next.fd.kp (bd__law_next F__law_next.fd) .nil (fun _ _ _ => .nil) (ma_cons (me_v 1) (ma_cons me_int ma_nil)))) (ma_cons (me_call B.toBd F__law_next.fm.clean (by decide) (T.glo 2) F__law_next.fd.kp (bd__law_next F__law_next.fd) .nil (fun _ _ _ => .nil) (ma_cons (me_v 1) (ma_cons me_int ma_nil))) ma_nil))) B.hc B.nd)
  (ml_cons (ms_asg (me_tup (ma_cons (me_callK B.toBd F_stitches.fm.clean (by decide) (T.glo 5) F_stitches.fd.kp (kb_stitches_1_long F_stitches.fd) (kb_stitches_1_long_rd) (ma_cons (me_v 3) ma_nil) (mk_cons (me_v 4) mk_nil)) (ma_cons (me_callK B.toBd F_made_good.fm.clean (by decide) (T.glo 4) F_made_good.fd.kp (kb_made_good_2_long F_made_good.fd) (kb_made_good_2_long_rd) (ma_cons (me_v 3) (ma_cons (me_v 5) ma_nil)) (mk_cons (me_v 4) mk_nil)) ma_nil))) (mg_tup B.hK B.hc (mgs_cons (mg_name 6 B.nd) (mgs_cons (mg_name 7 B.nd) mgs_nil))))
  (ml_cons (ms_if (PMW.pmb (mw_or (mb_cmp (op_neM B.hK B.hu) (me_blt cr_len (T.free 6) (ma_cons (me_v 6) ma_nil)) (me_blt cr_len (T.free 6) (ma_cons (me_v 7) ma_nil)) (nomark _)) (mw_or1 (mb_cmp (op_neM B.hK B.hu) (me_callK B.toBd F_gaps.fm.clean (by decide) (T.glo 7) F_gaps.fd.kp (kb_gaps_2_long F_gaps.fd) (kb_gaps_2_long_rd) (ma_cons (me_v 3) (ma_cons me_int ma_nil)) (mk_cons (me_v 4) mk_nil)) (me_lstF ma_nil) (nomark _))))) (ml_one (ms_ret me_bl)) ml_nil)
  (ml_cons (ms_if (mb_cmp (op_neM B.hK B.hu) (me_callK B.toBd F_made_good.fm.clean (by decide) (T.glo 4) F_made_good.fd.kp (kb_made_good_2_long F_made_good.fd) (kb_made_good_2_long_rd) (ma_cons (me_v 3) (ma_cons me_int ma_nil)) (mk_cons (me_v 4) mk_nil)) (me_bin op_mulM (me_lstF (ma_cons me_int ma_nil)) (me_blt cr_len (T.free 6) (ma_cons (me_v 6) ma_nil))) (nomark _)) (ml_one (ms_ret me_bl)) ml_nil)
  (ml_cons (ms_wipe [8, 9] (ms_for B.hp B.hc (mi_range1 rfl (T.free 1) (ma_cons (me_blt cr_len (T.free 6) (ma_cons (me_v 6) ma_nil)) ma_nil)) (mg_name 8 B.nd) (ml_wipe [8, 9] (ml_cons (ms_set 9 (me_bin op_subD (me_ix B.hK (me_ix B.hK (me_v 6) (me_v 8)) me_int) (me_ix B.hK (me_ix B.hK (me_v 6) (me_v 8)) me_int)) B.nd)
  (ml_cons (ms_if (mb_cmp op_gtM (me_bin op_divD (me_bin op_mulM (me_bin (op_addD B.hK) (me_bin op_mulM me_int (me_v 9)) (me_bin op_mulM me_int (me_ix B.hK (me_v 7) (me_v 8)))) (me_v 5)) me_int) (me_ix B.hK (me_v 7) (me_v 8)) (nomark _)) (ml_one (ms_ret me_bl)) ml_nil)
  (ml_one (ms_if (PMW.pmb (mw_and (mb_cmp op_gtM (me_ix B.hK (me_v 7) (me_v 8)) me_int (nomark _)) (mw_and1 (mb_cmp op_leM (me_bin op_divD (me_bin op_mulM (me_bin op_subD (me_bin (op_addD B.hK) (me_bin op_mulM me_int (me_v 9)) (me_bin op_mulM me_int (me_ix B.hK (me_v 7) (me_v 8)))) me_int) (me_v 5)) me_int) (me_bin op_subD (me_ix B.hK (me_v 7) (me_v 8)) me_int) (nomark _))))) (ml_one (ms_ret me_bl)) ml_nil)))))))
  (ml_cons (ms_set 10 (me_blt (cr_min2 B.hc) (T.free 8) (ma_cons me_int (ma_cons (me_bin (op_addD B.hK) (me_v 5) (me_call B.toBd F__law_next.fm.clean (by decide) (T.glo 2) F__law_next.fd.kp (bd__law_next F__law_next.fd) .nil (fun _ _ _ => .nil) (ma_cons (me_v 1) (ma_cons me_int ma_nil)))) ma_nil))) B.nd)
  (ml_cons (ms_setLcB (own := [("_law_row", 14), ("_law_first", 15), ("_law_past", 16)]) B 11 (mi_list B.hK (me_callK B.toBd F_gaps.fm.clean (by decide) (T.glo 7) F_gaps.fd.kp (kb_gaps_2_long F_gaps.fd) (kb_gaps_2_long_rd) (ma_cons (me_v 3) (ma_cons (me_v 5) ma_nil)) (mk_cons (me_v 4) mk_nil))) (blkOk_by (N := N_law) (sc := He.DefD.scope d_law) (own := [("_law_row", 14), ("_law_first", 15), ("_law_past", 16)]) (by first | decide +kernel | rfl)) (fun _ _ _ _ _ B => (mc_tup B.hc (mcs_cons (mc_name 14 B.nd (by decide)) (mcs_cons (mc_name 15 B.nd (by decide)) (mcs_cons (mc_name 16 B.nd (by decide)) mcs_nil))))) (fun _ _ _ _ _ B => mts_nil) (fun _ _ _ _ _ B => (me_bin op_subD (me_v 16) (me_v 15))))
  (ml_cons (ms_setLcB (own := [("_law_row", 14), ("_law_first", 15), ("_law_past", 16)]) B 12 (mi_list B.hK (me_callK B.toBd F_gaps.fm.clean (by decide) (T.glo 7) F_gaps.fd.kp (kb_gaps_2_long F_gaps.fd) (kb_gaps_2_long_rd) (ma_cons (me_v 3) (ma_cons (me_v 10) ma_nil)) (mk_cons (me_v 4) mk_nil))) (blkOk_by (N := N_law) (sc := He.DefD.scope d_law) (own := [("_law_row", 14), ("_law_first", 15), ("_law_past", 16)]) (by first | decide +kernel | rfl)) (fun _ _ _ _ _ B => (mc_tup B.hc (mcs_cons (mc_name 14 B.nd (by decide)) (mcs_cons (mc_name 15 B.nd (by decide)) (mcs_cons (mc_name 16 B.nd (by decide)) mcs_nil))))) (fun _ _ _ _ _ B => mts_nil) (fun _ _ _ _ _ B => (me_bin op_subD (me_v 16) (me_v 15))))
  (ml_cons (ms_set 13 (me_callK B.toBd F_made_good.fm.clean (by decide) (T.glo 4) F_made_good.fd.kp (kb_made_good_2_long F_made_good.fd) (kb_made_good_2_long_rd) (ma_cons (me_v 3) (ma_cons (me_v 10) ma_nil)) (mk_cons (me_v 4) mk_nil)) B.nd)
  (ml_cons (ms_wipe [8] (ms_if (PMW.pmb (mw_or (mb_cmp op_ltM (me_blt (cr_sumF B.hc) (T.free 9) (ma_cons (me_v 12) ma_nil)) (me_blt (cr_sumF B.hc) (T.free 9) (ma_cons (me_v 11) ma_nil)) (nomark _)) (mw_or1 (mb_cmp (op_neM B.hK B.hu) (me_lcB (own := [("_law_k", 8)]) B (mi_range1 rfl (T.free 1) (ma_cons (me_blt cr_len (T.free 6) (ma_cons (me_v 7) ma_nil)) ma_nil)) (blkOk_by (N := N_law) (sc := He.DefD.scope d_law) (own := [("_law_k", 8)]) (by first | decide +kernel | rfl)) (fun _ _ _ _ _ B => (mc_name 8 B.nd (by decide))) (fun _ _ _ _ _ B => (mts_one (mb_cmp op_ltM (me_ix B.hK (me_v 13) (me_v 8)) (me_ix B.hK (me_v 7) (me_v 8)) (nomark _)))) (fun _ _ _ _ _ B => (me_v 8))) (me_lstF ma_nil) (nomark _))))) (ml_one (ms_ret me_bl)) ml_nil))
  (ml_one (ms_wipe [14, 15, 16] (ms_for B.hp B.hc (mi_list B.hK (me_callK B.toBd F_gaps.fm.clean (by decide) (T.glo 7) F_gaps.fd.kp (kb_gaps_2_long F_gaps.fd) (kb_gaps_2_long_rd) (ma_cons (me_v 3) (ma_cons (me_v 5) ma_nil)) (mk_cons (me_v 4) mk_nil))) (mg_tup B.hK B.hc (mgs_cons (mg_name 14 B.nd) (mgs_cons (mg_name 15 B.nd) (mgs_cons (mg_name 16 B.nd) mgs_nil)))) (ml_wipe [14, 15, 16] (ml_cons (ms_if (mb_not (mb_chain3 op_leM op_ltM op_leM me_int (me_v 15) (me_v 16) (me_bin op_mulM me_int (me_blt cr_len (T.free 6) (ma_cons (me_ix B.hK (me_v 3) me_int) ma_nil))))) (ml_one (ms_ret me_bl)) ml_nil)
  (ml_one (ms_if (mb_cmp (op_eqM B.hK B.hu) (me_ix B.hK (me_ix B.hK (me_v 3) (me_v 14)) (me_bin op_divD (me_v 15) me_int)) (me_str [46]) (nomark _)) (ml_one (ms_ret me_bl)) ml_nil))))))))))))))))))))
  (ml_one (ms_ret me_bl))))
theorem law_fx {K : PySem.W.Frag} {w : World} {mg : Str → Option Value} {base : Heap} (T : Tx K mg) {fd : FuncData} (F : FunD K d_law.name d_law.qual d_law.params d_law.body d_law.scope (He.DefD.dvs K d_law) (He.DefD.kws K d_law) (He.fAd K d_law.at_) fd) : FX K w mg base 4 d_law P_law f_law (He.fAd K d_law.at_) fd := by
  obtain ⟨fd__law_mix, D__law_mix⟩ := T.c.def_ 0 (d := d__law_mix) rfl
  have F__law_mix := ok__law_mix (w := w) (base := base) T D__law_mix 
  obtain ⟨fd__law_next, D__law_next⟩ := T.c.def_ 1 (d := d__law_next) rfl
  have F__law_next := ok__law_next (w := w) (base := base) T D__law_next 
  obtain ⟨fd__law_picture, D__law_picture⟩ := T.c.def_ 2 (d := d__law_picture) rfl
  have F__law_picture := ok__law_picture (w := w) (base := base) T D__law_picture F__law_next
  obtain ⟨fd_drawn_in, D_drawn_in⟩ := T.c.def_ 3 (d := d_drawn_in) rfl
  have F_drawn_in := ok_drawn_in (w := w) (base := base) T D_drawn_in 
  obtain ⟨fd_need_count, D_need_count⟩ := T.c.def_ 4 (d := d_need_count) rfl
  have F_need_count := ok_need_count (w := w) (base := base) T D_need_count 
  obtain ⟨fd_need_picture, D_need_picture⟩ := T.c.def_ 5 (d := d_need_picture) rfl
  have F_need_picture := ok_need_picture (w := w) (base := base) T D_need_picture 
  obtain ⟨fd_runs_of, D_runs_of⟩ := T.c.def_ 6 (d := d_runs_of) rfl
  have F_runs_of := ok_runs_of (w := w) (base := base) T D_runs_of 
  obtain ⟨fd_stitches_of, D_stitches_of⟩ := T.c.def_ 7 (d := d_stitches_of) rfl
  have F_stitches_of := ok_stitches_of (w := w) (base := base) T D_stitches_of F_runs_of
  obtain ⟨fd_gaps, D_gaps⟩ := T.c.def_ 8 (d := d_gaps) rfl
  have F_gaps := ok_gaps (w := w) (base := base) T D_gaps F_drawn_in F_need_count F_need_picture F_stitches_of
  obtain ⟨fd_made_good, D_made_good⟩ := T.c.def_ 9 (d := d_made_good) rfl
  have F_made_good := ok_made_good (w := w) (base := base) T D_made_good F_drawn_in F_need_count F_need_picture F_stitches_of
  obtain ⟨fd_stitches, D_stitches⟩ := T.c.def_ 10 (d := d_stitches) rfl
  have F_stitches := ok_stitches (w := w) (base := base) T D_stitches F_need_count F_need_picture F_stitches_of
  exact ok_law T F F__law_mix F__law_next F__law_picture F_gaps F_made_good F_stitches
def loose : List Str := ["ClothError", "BadPicture", "BadCount", "MOST_ROWS", "BARE", "COLOURS", "need_count", "need_picture", "runs_of", "LONG", "MOST_LONG", "SQUARE", "MOST_PULL", "stitches_of", "stitches", "drawn_in", "gaps", "made_good", "_law_mix", "_law_next", "_law_picture", "_law_runs", "_law_stitches"]
abbrev R : PySem.W.OpenRow := PySem.W.OpenLaw.row PySem.Challenge.rw_needlecloth_k28_whole_pull_and_what_make
abbrev hk : PySem.W.Hook := He.hookD 4 fa fn
def ob (s : PySem.W.SharedT) : He.AlD := He.obsDG 4 fa fn (HandSHeadRun.getT s)
theorem ob_eq (s : PySem.W.SharedT) : ob s = hk.obs s.abs := He.obsDG_eq (HandSHeadRun.getT_eq s)
theorem run (w : World) : HandSHeadRun.RunEq R (PySem.W.view R.prog [27]) hk ob 6000 loose w := by
  intro os
  kernel_rfl
theorem law_at {w : World} {K : PySem.W.Frag} {mg : Str → Option Value} {h : Heap} {fa : Addr} (T : Tx K mg) (hmg : mg ("law" : Str) = some (.ref fa)) (hf : ∀ ns : List Int, ns.length ≤ 63 → (∀ z ∈ ns, Builtin.Int.intBits z ≤ 1048576) → ∃ h', f_law [.scr ns] 0 [] = .ok (.bl true) h') : LamX.LawAtS PySem.Challenge.rw_needlecloth_k28_whole_pull_and_what_make w K (L2.CX prg w) 4 63 "_law_script" mg fa h := by
  obtain ⟨fd, F⟩ := T.c.def_ 11 (d := d_law) rfl
  have e := hmg.symm.trans (T.glo 26)
  cases e
  exact ⟨fd, [], spM (cn K) 1 f_law, by simp, by simp, by simp, fun s v => FunD.bindsA (ps := P_law) F (fun _ _ _ _ _ _ us hl => match us, hl with | [_], _ => rfl) s [v] rfl, fun H a ns hl hz _ hS => sp_law hS (hf ns hl hz), fun base _ _ _ => (law_fx T F).fm.ok⟩
end G
namespace G
open PySem PySem.W PySem.Calls PyProof.Rows
theorem holds_of (hf : ∀ ns : List Int, ns.length ≤ 63 → (∀ z ∈ ns, Builtin.Int.intBits z ≤ 1048576) → ∃ h', f_law [.scr ns] 0 [] = .ok (.bl true) h') : PySem.Challenge.rw_needlecloth_k28_whole_pull_and_what_make.Holds := by
  w_on; o_law
  refine HandSHeadRun.head_any (r := OpenLaw.row PySem.Challenge.rw_needlecloth_k28_whole_pull_and_what_make) (q := view (OpenLaw.row PySem.Challenge.rw_needlecloth_k28_whole_pull_and_what_make).prog [27]) (H := G.hk) (ob := G.ob) (M := 6000) (loose := G.loose) (d := HandSHeadRun.topDef (OpenLaw.row PySem.Challenge.rw_needlecloth_k28_whole_pull_and_what_make).prog 27) (kwd := []) G.ob_eq
    (by kernel_rfl) (fun s => by kernel_rfl) G.run (by kernel_rfl) (by kernel_rfl) (by kernel_rfl) (by rfl) (by first | assumption | decide +kernel) (by decide +kernel) ⟨rfl, rfl, rfl, rfl, rfl, by decide +kernel⟩ ?hw ?hc
  case hw => w_witness2
  case hc =>
    refine LamX.walk_ofTsE (l := PySem.Challenge.rw_needlecloth_k28_whole_pull_and_what_make) (n := 63) (k := 4) (x := "_law_script") (CX := fun w => L2.CX G.prg w) rfl (by decide) (by kernel_rfl) ⟨rfl, by decide, by decide⟩ ?F (fun w H s e s' h => by
      obtain ⟨_, _, _, _, _, _, _, _, _, _, _, _, h⟩ := h
      exact h)
    intro w mg fa h Y Gn hmg0
    obtain ⟨K, KX, c⟩ := Y
    have hmg : mg ("law" : PySem.Str) = some (.ref fa) := by
      have e : (HandSHeadRun.topDef (OpenLaw.row PySem.Challenge.rw_needlecloth_k28_whole_pull_and_what_make).prog 27).name = ("law" : PySem.Str) := by kernel_rfl
      rw [← e]
      exact hmg0
    exact ⟨K, KX, G.law_at ⟨⟨h, KX, Gn⟩, c⟩ hmg hf⟩
end G

theorem PySem.Challenge.cw_needlecloth_k28_whole_pull_and_what_make_holds : PySem.Challenge.rw_needlecloth_k28_whole_pull_and_what_make.Holds := by
  exact G.holds_of G.law_true
