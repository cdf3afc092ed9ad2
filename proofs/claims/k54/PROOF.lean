import PyProof.Rows.All
import Wide.All
import OpenK.AllK
import Wide.FinOn
import KE.KDictKeyed
import HandS.ForMost
import HandS.ForExc
import HandS.Walk
import HandS.Style
import HandS.Defaults
import HandS.Property
import HandS.Wide
import PyProof.StrBlock2
import HandS.Deep
import HandS.Text
import HandS.Comp
import HandS.ExcOwn
import HandS.CallSlots
import KE.KOpsOwn
import HandS.OwnEq
import HandS.IsInst
import HandS.RaiseMore
import HandS.Steps
import HandS.FStr
import HandS.Zip
import HandS.TryMany
import HandS.ExcIs
import HandS.ExcField
import HandS.ExcInit
import HandS.Codes
import HandS.Head0
import HandS.Head1
import HandS.Head2
import HandS.HeadHook1
import HandS.HeadHook2
import HandS.HeadHook4
import HandS.HeadEnd
import KE.KStateDown
import PySem.Challenge.RW_anyworker_k54_values_that_are_none
import Lean
set_option Elab.async false
set_option linter.all false
set_option maxRecDepth 100000
set_option maxHeartbeats 4000000
noncomputable section
namespace DL
open PySem PySem.Spec PyProof.Rows L2

/-! ## data, objects, stores -/
inductive D where
  | non | bl (b : Bool) | int (i : Int) | str (s : Str) | glo (x : Str)
  | tup (xs : List D) | lst (xs : List D) | scr (xs : List D) | dct (kvs : List (D × D)) | obj (c : Str) (fs : List (Str × D))
instance : DecidableEq D := Classical.typeDecidableEq D
instance : Inhabited D := ⟨.non⟩
/-- a field of a mutable instance: data, or a child of its own -/
inductive Fl where
  | d (x : D) | c
inductive O where
  | lst (xs : List D) | dct (kvs : List (D × D)) | ins (c : Str) (fs : List (Str × Fl))
/-- a mutable object and its children, by their paths -/
abbrev Tree := List (List Str × O)
abbrev Sto := List (Option Tree)
inductive Val where
  | d (x : D) | m (l : Nat) (p : List Str) | f (t : Tree)
abbrev En := List (Option Val)
inductive Res (α : Type) where
  | ok (a : α) (s : Sto) | exc (e : D) (s : Sto) | bad
abbrev M (α : Type) := Sto → Res α
def ret {α : Type} (a : α) : M α := fun s => .ok a s
def bad {α : Type} : M α := fun _ => .bad
def Res.bnd {α β : Type} (r : Res α) (k : α → M β) : Res β := match r with
  | .ok a s => k a s
  | .exc e s => .exc e s
  | .bad => .bad
def bnd {α β : Type} (m : M α) (k : α → M β) : M β := fun s => (m s).bnd k
theorem bnd_ok {α β : Type} {m : M α} {k : α → M β} {s s' : Sto} {a : α} (h : m s = .ok a s') : bnd m k s = k a s' := by
  unfold bnd; rw [h]; rfl
def res (s : Sto) (l : Nat) (p : List Str) : Option O := match s[l]? with
  | some (some t) => t.lookup p
  | _ => none

/-! ## what data stands for -/
structure TX where
  P : Program
  w : World
  K : PySem.W.Frag
  mg : Str → Option Value
abbrev tx (X : Cx) : TX := ⟨X.prog, X.w, X.K, X.mg⟩

mutual
def nkOf : D → Option NestedKey
  | .non => some .none
  | .int i => some (.num i)
  | .str x => some (.text x)
  | .tup xs => (nkAll xs).map .tup
  | _ => none
def nkAll : List D → Option (List NestedKey)
  | [] => some []
  | x :: xs => match nkOf x, nkAll xs with
    | some k, some ks => some (k :: ks)
    | _, _ => none
end
def kD : Key → D
  | .inl i => .int i
  | .inr x => .str x
/-- a dict with keys that are tuples stands at a -/
def NkP (P : Program) (w : World) (a : Addr) (es : List (NestedKey × Addr × V)) : Heap → Prop := fun h =>
  es.length ≤ sizeLine ∧ (a == sysModules) = false ∧ ∃ us : List Value, Vals (es.map (·.2.2)) us ∧
    ∃ o ds ep, h.get? a = some o ∧ o.ExactDict ∧ o.data = .dict ds ep ∧ ds.toList = ((es.map (·.1)).zip ((es.map (·.2.1)).zip us)).map (entryOfKey (nestedKind P w)) ∧ (es.map (·.1)).Nodup

mutual
inductive Rep (T : TX) (G : Hp) : V → D → Prop
  | non : Rep T G .non .non
  | bl (b : Bool) : Rep T G (.bl b) (.bl b)
  | int (i : Int) : Rep T G (.int i) (.int i)
  | str (x : Str) : Rep T G (.str x) (.str x)
  | glo {x : Str} {a : Addr} : T.mg x = some (.ref a) → Rep T G (.ref a) (.glo x)
  | tup {a : Addr} {vs : List V} {xs : List D} : SqT T.K G a vs → RepL T G vs xs → Rep T G (.ref a) (.tup xs)
  | lst {a : Addr} {vs : List V} {xs : List D} : G a = some (.lst vs) → RepL T G vs xs → Rep T G (.ref a) (.lst xs)
  | scr {a : Addr} {vs : List V} {xs : List D} : SqL T.K G a vs → RepL T G vs xs → Rep T G (.ref a) (.scr xs)
  | dctK {a : Addr} {ks : List (Key × V)} {kvs : List (D × D)} : G a = some (.dK ks) → RepK T G ks kvs → Rep T G (.ref a) (.dct kvs)
  | dctN {a : Addr} {es : List (NestedKey × Addr × V)} {kvs : List (D × D)} : G a = some (.ext (NkP T.P T.w a es)) → RepN T G es kvs → Rep T G (.ref a) (.dct kvs)
  | obj {a C dx : Addr} {c : Str} {vfs : List (Str × V)} {fs : List (Str × D)} : T.mg c = some (.ref C) → G a = some (.ins C dx vfs) → RepF T G vfs fs → Rep T G (.ref a) (.obj c fs)
inductive RepL (T : TX) (G : Hp) : List V → List D → Prop
  | nil : RepL T G [] []
  | cons {v : V} {d : D} {vs : List V} {ds : List D} : Rep T G v d → RepL T G vs ds → RepL T G (v :: vs) (d :: ds)
inductive RepK (T : TX) (G : Hp) : List (Key × V) → List (D × D) → Prop
  | nil : RepK T G [] []
  | cons {k : Key} {v : V} {d : D} {ks : List (Key × V)} {kvs : List (D × D)} : Rep T G v d → RepK T G ks kvs → RepK T G ((k, v) :: ks) ((kD k, d) :: kvs)
inductive RepN (T : TX) (G : Hp) : List (NestedKey × Addr × V) → List (D × D) → Prop
  | nil : RepN T G [] []
  | cons {k : NestedKey} {b : Addr} {kd : D} {v : V} {d : D} {es : List (NestedKey × Addr × V)} {kvs : List (D × D)} : Rep T G (.ref b) kd → nkOf kd = some k → k.depth ≤ 8 → Rep T G v d → RepN T G es kvs → RepN T G ((k, b, v) :: es) ((kd, d) :: kvs)
inductive RepF (T : TX) (G : Hp) : List (Str × V) → List (Str × D) → Prop
  | nil : RepF T G [] []
  | cons {n : Str} {v : V} {d : D} {vs : List (Str × V)} {fs : List (Str × D)} : Rep T G v d → RepF T G vs fs → RepF T G ((n, v) :: vs) ((n, d) :: fs)
end
theorem sameT {K : PySem.W.Frag} {G G' : Hp} {a : Addr} {xs : List V} (e : Same G G') (h : SqT K G a xs) : SqT K G' a xs := by
  rcases h with (h | ⟨o, h⟩) | h
  · exact .inl (.inl (e _ _ h))
  · exact .inl (.inr ⟨o, e _ _ h⟩)
  · exact .inr h
section
variable {T : TX} {G G' : Hp}
mutual
theorem Rep.mono (e : Same G G') : ∀ {v : V} {d : D}, Rep T G v d → Rep T G' v d
  | _, _, .non => .non
  | _, _, .bl b => .bl b
  | _, _, .int i => .int i
  | _, _, .str x => .str x
  | _, _, .glo h => .glo h
  | _, _, .tup h r => .tup (sameT e h) (RepL.mono e r)
  | _, _, .lst h r => .lst (e _ _ h) (RepL.mono e r)
  | _, _, .scr h r => .scr (e.seq h) (RepL.mono e r)
  | _, _, .dctK h r => .dctK (e _ _ h) (RepK.mono e r)
  | _, _, .dctN h r => .dctN (e _ _ h) (RepN.mono e r)
  | _, _, .obj h1 h2 r => .obj h1 (e _ _ h2) (RepF.mono e r)
theorem RepL.mono (e : Same G G') : ∀ {v : List V} {d : List D}, RepL T G v d → RepL T G' v d
  | _, _, .nil => .nil
  | _, _, .cons h r => .cons (Rep.mono e h) (RepL.mono e r)
theorem RepK.mono (e : Same G G') : ∀ {v : List (Key × V)} {d : List (D × D)}, RepK T G v d → RepK T G' v d
  | _, _, .nil => .nil
  | _, _, .cons h r => .cons (Rep.mono e h) (RepK.mono e r)
theorem RepN.mono (e : Same G G') : ∀ {v : List (NestedKey × Addr × V)} {d : List (D × D)}, RepN T G v d → RepN T G' v d
  | _, _, .nil => .nil
  | _, _, .cons h1 h2 h3 h4 r => .cons (Rep.mono e h1) h2 h3 (Rep.mono e h4) (RepN.mono e r)
theorem RepF.mono (e : Same G G') : ∀ {v : List (Str × V)} {d : List (Str × D)}, RepF T G v d → RepF T G' v d
  | _, _, .nil => .nil
  | _, _, .cons h r => .cons (Rep.mono e h) (RepF.mono e r)
end
end

/-! ## the relation of a store and a heap -/
abbrev AM := Nat → List Str → Addr
def NdF (T : TX) (G : Hp) (ad : List Str → Addr) (p : List Str) : (Str × V) → (Str × Fl) → Prop := fun a b => a.1 = b.1 ∧ match b.2 with
  | .d x => Rep T G a.2 x
  | .c => a.2 = .ref (ad (p ++ [b.1]))
def Nd (T : TX) (G H : Hp) (ad : List Str → Addr) (p : List Str) : O → Prop
  | .lst xs => ∃ vs, H (ad p) = some (.lst vs) ∧ RepL T G vs xs
  | .dct kvs => (∃ ks, H (ad p) = some (.dK ks) ∧ RepK T G ks kvs) ∨ ∃ es, H (ad p) = some (.ext (NkP T.P T.w (ad p) es)) ∧ RepN T G es kvs
  | .ins c fs => ∃ C dx vfs, T.mg c = some (.ref C) ∧ H (ad p) = some (.ins C dx vfs) ∧ Paired (NdF T G ad p) vfs fs
structure SimS (T : TX) (G : Hp) (AD : AM) (Fr : Hp) (s : Sto) (H : Hp) : Prop where
  gh : Same G H
  fr : Same Fr H
  fg : ∀ a o, Fr a = some o → G a = none
  nd : ∀ l p o, res s l p = some o → Nd T G H (AD l) p o
  ng : ∀ l p o, res s l p = some o → G (AD l p) = none
  nf : ∀ l p o, res s l p = some o → Fr (AD l p) = none
  inj : ∀ l p o l' p' o', res s l p = some o → res s l' p' = some o' → AD l p = AD l' p' → l = l' ∧ p = p'
  rt : ∀ (l : Nat) t, s[l]? = some (some t) → ∃ o, t.lookup [] = some o
def VR (T : TX) (G : Hp) (AD : AM) (s : Sto) : Val → V → Prop
  | .d x, v => Rep T G v x
  | .m l p, v => l < s.length ∧ ∀ o, res s l p = some o → v = .ref (AD l p)
  | .f _, _ => False
/-- the frame: where its own mutable objects begin, which slot owns which -/
structure FC where
  b : Nat
  nk : Nat
  ow : List (Nat × Nat)
  g0 : Hp
  px : List (Nat × V)
abbrev fc (b nk : Nat) (ow : List (Nat × Nat)) : FC := ⟨b, nk, ow, fun _ => none, []⟩
abbrev FC.cl (Y : FC) : FC := ⟨Y.b, Y.nk, Y.ow, fun _ => none, []⟩
structure EnvOk (T : TX) (Y : FC) (G : Hp) (AD : AM) (env : En) (s : Sto) (σ : L2.St) : Prop where
  len : env.length = σ.length
  val : ∀ (i : Nat) v, env[i]? = some (some v) → ∃ x, σ[i]? = some (some x) ∧ VR T G AD s v x
  own : ∀ (i l : Nat) p, env[i]? = some (some (.m l p)) → l < Y.b ∨ ∃ k, (i, k) ∈ Y.ow ∧ k < Y.nk ∧ l = Y.b + k ∧ p = []
  g0 : Same Y.g0 G
  px : ∀ p ∈ Y.px, env[p.1]? = some none → σ[p.1]? = some (some p.2)
structure SimE (T : TX) (Y : FC) (G : Hp) (AD : AM) (Fr : Hp) (env : En) (s : Sto) (σ : L2.St) (H : Hp) : Prop where
  ss : SimS T G AD Fr s H
  en : EnvOk T Y G AD env s σ
  bl : Y.b + Y.nk ≤ s.length
/-- a value that came about: a new object's tree stands behind the store -/
def RV (T : TX) (G : Hp) (AD : AM) (Fr : Hp) (s : Sto) (H : Hp) (v : Val) (x : V) : Prop := match v with
  | .f t => SimS T G AD Fr (s ++ [some t]) H ∧ x = .ref (AD s.length [])
  | v => SimS T G AD Fr s H ∧ VR T G AD s v x
/-- nothing new among the old roots (those told by q), the addresses stay -/
structure Ext (q : Nat → Prop) (s : Sto) (AD : AM) (s' : Sto) (AD' : AM) : Prop where
  len : s.length ≤ s'.length
  old : ∀ l p o, q l → res s' l p = some o → (∃ o', res s l p = some o') ∧ AD' l p = AD l p
theorem Ext.refl {q : Nat → Prop} {s : Sto} {AD : AM} : Ext q s AD s AD := ⟨Nat.le_refl _, fun _ _ o _ h => ⟨⟨o, h⟩, rfl⟩⟩
theorem Ext.trans {q : Nat → Prop} {s s1 s2 : Sto} {AD AD1 AD2 : AM} (a : Ext q s AD s1 AD1) (b : Ext q s1 AD1 s2 AD2) : Ext q s AD s2 AD2 := ⟨Nat.le_trans a.len b.len, fun l p o hq h => by
  obtain ⟨⟨o', h'⟩, e⟩ := b.old l p o hq h
  obtain ⟨h2, e2⟩ := a.old l p o' hq h'
  exact ⟨h2, e.trans e2⟩⟩
abbrev All : Nat → Prop := fun _ => True
theorem Ext.mono {q q' : Nat → Prop} {s s1 : Sto} {AD AD1 : AM} (a : Ext q s AD s1 AD1) (h : ∀ l, q' l → q l) : Ext q' s AD s1 AD1 := ⟨a.len, fun l p o hq e => a.old l p o (h l hq) e⟩

/-- an exception: its class, its own dict -/
def ExR (T : TX) (G : Hp) (cls : Value) (dx : Option Addr) : D → Prop
  | .obj c fs => ∃ C, T.mg c = some (.ref C) ∧ cls = .ref C ∧ ∃ d vfs, dx = some d ∧ G d = some (.xd vfs) ∧ RepF T G vfs fs
  | _ => False
def PostR {β : Type} (q : Nat → Prop) (T : TX) (W : WX) (Fr : Hp) (σ : L2.St) (G : Hp) (AD : AM) (s : Sto) (r : Res β) (C : β → Hp → AM → Sto → Hp → Prop) : Prop := match r with
  | .bad => False
  | .ok v s' => ∀ G' AD' H', Same G G' → Ext q s AD s' AD' → C v G' AD' s' H'
  | .exc d s' => ∀ G' AD' H' cls dx, Same G G' → Ext q s AD s' AD' → SimS T G' AD' Fr s' H' → ExR T G' cls dx d → W cls dx σ H'
theorem PostR.mono {β : Type} {q : Nat → Prop} {T : TX} {W : WX} {Fr : Hp} {σ : L2.St} {G G1 : Hp} {AD AD1 : AM} {s s1 : Sto} {r : Res β} {C : β → Hp → AM → Sto → Hp → Prop} (h : PostR q T W Fr σ G AD s r C) (g : Same G G1) (e : Ext q s AD s1 AD1) :
    PostR q T W Fr σ G1 AD1 s1 r C := by
  cases r with
  | bad => exact h
  | ok v s' => exact fun G' AD' H' g' e' => h G' AD' H' (g.trans g') (e.trans e')
  | exc d s' => exact fun G' AD' H' cls dx g' e' => h G' AD' H' cls dx (g.trans g') (e.trans e')

theorem Same.keepNd {T : TX} {G H H' : Hp} {ad : List Str → Addr} {p : List Str} {o : O} (e : Same H H') (h : Nd T G H ad p o) : Nd T G H' ad p o := by
  cases o with
  | lst xs => obtain ⟨vs, h1, h2⟩ := h; exact ⟨vs, e _ _ h1, h2⟩
  | dct kvs =>
    rcases h with ⟨ks, h1, h2⟩ | ⟨es, h1, h2⟩
    · exact .inl ⟨ks, e _ _ h1, h2⟩
    · exact .inr ⟨es, e _ _ h1, h2⟩
  | ins c fs => obtain ⟨C, dx, vfs, h0, h1, h2⟩ := h; exact ⟨C, dx, vfs, h0, e _ _ h1, h2⟩
theorem NdF.mono {T : TX} {G G' : Hp} {ad : List Str → Addr} {p : List Str} {a : Str × V} {b : Str × Fl} (e : Same G G') (h : NdF T G ad p a b) : NdF T G' ad p a b := by
  obtain ⟨h1, h2⟩ := h
  refine ⟨h1, ?_⟩
  obtain ⟨n, x⟩ := b
  cases x with
  | d x => exact Rep.mono e h2
  | c => exact h2
theorem Nd.monoG {T : TX} {G G' H : Hp} {ad : List Str → Addr} {p : List Str} {o : O} (e : Same G G') (h : Nd T G H ad p o) : Nd T G' H ad p o := by
  cases o with
  | lst xs => obtain ⟨vs, h1, h2⟩ := h; exact ⟨vs, h1, h2.mono e⟩
  | dct kvs =>
    rcases h with ⟨ks, h1, h2⟩ | ⟨es, h1, h2⟩
    · exact .inl ⟨ks, h1, h2.mono e⟩
    · exact .inr ⟨es, h1, h2.mono e⟩
  | ins c fs => obtain ⟨C, dx, vfs, h0, h1, h2⟩ := h; exact ⟨C, dx, vfs, h0, h1, L2.Paired.mapP h2 fun _ _ r => NdF.mono e r⟩
theorem EnvOk.mono {T : TX} {Y : FC} {G G' : Hp} {AD AD' : AM} {env : En} {s s' : Sto} {σ : L2.St} (h : EnvOk T Y G AD env s σ) (g : Same G G') (e : Ext All s AD s' AD') : EnvOk T Y G' AD' env s' σ := by
  refine ⟨h.len, fun i v hv => ?_, h.own, h.g0.trans g, h.px⟩
  obtain ⟨x, h1, h2⟩ := h.val i v hv
  refine ⟨x, h1, ?_⟩
  cases v with
  | d y => exact Rep.mono g h2
  | m l p =>
    refine ⟨Nat.lt_of_lt_of_le h2.1 e.len, fun o ho => ?_⟩
    obtain ⟨⟨o', h3⟩, h4⟩ := e.old l p o trivial ho
    rw [h4]
    exact h2.2 o' h3
  | f t => exact h2
theorem res_append {s : Sto} {t : Option Tree} {l : Nat} {p : List Str} (h : l ≠ s.length) : res (s ++ [t]) l p = res s l p := by
  unfold res
  by_cases hl : l < s.length
  · rw [List.getElem?_append_left hl]
  · rw [List.getElem?_eq_none (by rw [List.length_append, List.length_singleton]; omega), List.getElem?_eq_none (by omega)]
theorem res_last {s : Sto} {t : Tree} {p : List Str} : res (s ++ [some t]) s.length p = t.lookup p := by
  unfold res
  rw [List.getElem?_append_right (Nat.le_refl _)]
  simp
theorem res_lt {s : Sto} {l : Nat} {p : List Str} {o : O} (h : res s l p = some o) : l < s.length := by
  unfold res at h
  by_cases hl : l < s.length
  · exact hl
  · rw [List.getElem?_eq_none (by omega)] at h
    cases h
theorem SimS.pre {T : TX} {G : Hp} {AD : AM} {Fr : Hp} {s : Sto} {t : Option Tree} {H : Hp} (S : SimS T G AD Fr (s ++ [t]) H) : SimS T G AD Fr s H := by
  have k : ∀ l p o, res s l p = some o → res (s ++ [t]) l p = some o := fun l p o h => by
    rw [res_append (Nat.ne_of_lt (res_lt h))]; exact h
  exact ⟨S.gh, S.fr, S.fg, fun l p o h => S.nd l p o (k l p o h), fun l p o h => S.ng l p o (k l p o h), fun l p o h => S.nf l p o (k l p o h), fun l p o l' p' o' h h' => S.inj l p o l' p' o' (k l p o h) (k l' p' o' h'), fun l t' h => S.rt l t' (by rw [List.getElem?_append_left (List.getElem?_eq_some_iff.mp h).1]; exact h)⟩
theorem RV.ss {T : TX} {G : Hp} {AD : AM} {Fr : Hp} {s : Sto} {H : Hp} {v : Val} {x : V} (r : RV T G AD Fr s H v x) : SimS T G AD Fr s H := by
  cases v with
  | d y => exact r.1
  | m l p => exact r.1
  | f t => exact r.1.pre

def CE (T : TX) (Fr : Hp) (Q : VK) : Val → Hp → AM → Sto → Hp → Prop := fun v G' AD' s' H' => ∀ x, RV T G' AD' Fr s' H' v x → Q x H'
def tE (X : Cx) (Y : FC) (W : WX) (m : En → M Val) : TE := fun σ H Q => ∃ G AD Fr env s, SimE (tx X) Y G AD Fr env s σ H ∧ PostR All (tx X) W Fr σ G AD s (m env s) (CE (tx X) Fr Q)
/-- an expression means m -/
structure DE (X : Cx) (Y : FC) (W : WX) (e : Expr) (m : En → M Val) : Prop where
  pe : PE X e (tE X Y W m)
theorem peImp {X : Cx} {e : Expr} {t t' : TE} (h : PE X e t) (i : ∀ σ H Q, t' σ H Q → t σ H Q) : PE X e t' := ⟨fun pins s σ H Q I q => h.run pins s σ H Q I (i σ H Q q)⟩
theorem mkE {X : Cx} {Y : FC} {W : WX} {e : Expr} {t : TE} {m : En → M Val} (h : PE X e t)
    (i : ∀ σ H Q G AD Fr env s, SimE (tx X) Y G AD Fr env s σ H → PostR All (tx X) W Fr σ G AD s (m env s) (CE (tx X) Fr Q) → t σ H Q) : DE X Y W e m :=
  ⟨peImp h fun σ H Q ⟨G, AD, Fr, env, s, S, p⟩ => i σ H Q G AD Fr env s S p⟩
/-- one part behind another -/
theorem stepE {X : Cx} {Y : FC} {W : WX} {ma : En → M Val} {β : Type} {q : Nat → Prop} {k : Val → M β} {G : Hp} {AD : AM} {Fr : Hp} {env : En} {s : Sto} {σ : L2.St} {H : Hp} {Q' : VK} {C : β → Hp → AM → Sto → Hp → Prop}
    (S : SimE (tx X) Y G AD Fr env s σ H) (p : PostR q (tx X) W Fr σ G AD s ((ma env s).bnd k) C)
    (h : ∀ v s1 G1 AD1 H1 x, ma env s = .ok v s1 → Same G G1 → Ext All s AD s1 AD1 → SimE (tx X) Y G1 AD1 Fr env s1 σ H1 → RV (tx X) G1 AD1 Fr s1 H1 v x → PostR q (tx X) W Fr σ G1 AD1 s1 (k v s1) C → Q' x H1) : tE X Y W ma σ H Q' := by
  refine ⟨G, AD, Fr, env, s, S, ?_⟩
  cases e : ma env s with
  | bad => rw [e] at p; exact p
  | exc d s' =>
    rw [e] at p
    exact fun G' AD' H' cls dx g x => p G' AD' H' cls dx g (x.mono fun _ _ => trivial)
  | ok v s' =>
    rw [e] at p
    have p' : PostR q (tx X) W Fr σ G AD s (k v s') C := p
    exact fun G' AD' H' g x y r => h v s' G' AD' H' y e g x ⟨r.ss, S.en.mono g x, Nat.le_trans S.bl x.len⟩ r (p'.mono g (x.mono fun _ _ => trivial))
theorem VR.mono {T : TX} {G G' : Hp} {AD AD' : AM} {s s' : Sto} {v : Val} {x : V} (h : VR T G AD s v x) (g : Same G G') (e : Ext All s AD s' AD') : VR T G' AD' s' v x := by
  cases v with
  | d y => exact Rep.mono g h
  | m l p =>
    refine ⟨Nat.lt_of_lt_of_le h.1 e.len, fun o ho => ?_⟩
    obtain ⟨⟨o', h3⟩, h4⟩ := e.old l p o trivial ho
    rw [h4]
    exact h.2 o' h3
  | f t => exact h
/-- the end: a value -/
theorem PostR.done {q : Nat → Prop} {T : TX} {W : WX} {Fr : Hp} {σ : L2.St} {G G' : Hp} {AD AD' : AM} {s s' : Sto} {v : Val} {Q : VK} {x : V} {H' : Hp} (p : PostR q T W Fr σ G AD s (.ok v s') (CE T Fr Q)) (g : Same G G') (e : Ext q s AD s' AD') (r : RV T G' AD' Fr s' H' v x) : Q x H' :=
  p G' AD' H' g e x r

/-! ## tests, arguments -/
def CT (T : TX) (Fr : Hp) (Q : Bool → Hp → Prop) : Bool → Hp → AM → Sto → Hp → Prop := fun b G' AD' s' H' => SimS T G' AD' Fr s' H' → Q b H'
def tT (X : Cx) (Y : FC) (W : WX) (m : En → M Bool) : TT := fun σ H Q => ∃ G AD Fr env s, SimE (tx X) Y G AD Fr env s σ H ∧ PostR All (tx X) W Fr σ G AD s (m env s) (CT (tx X) Fr Q)
structure DT (X : Cx) (Y : FC) (W : WX) (e : Expr) (m : En → M Bool) : Prop where
  pt : PT X e (tT X Y W m)
structure DW (X : Cx) (Y : FC) (W : WX) (e : Expr) (m : En → M Bool) : Prop where
  pw : PW X e (tT X Y W m)
theorem mkT {X : Cx} {Y : FC} {W : WX} {e : Expr} {t : TT} {m : En → M Bool} (h : PT X e t)
    (i : ∀ σ H Q G AD Fr env s, SimE (tx X) Y G AD Fr env s σ H → PostR All (tx X) W Fr σ G AD s (m env s) (CT (tx X) Fr Q) → t σ H Q) : DT X Y W e m :=
  ⟨⟨fun pins s σ H Q I ⟨G, AD, Fr, env, st, S, p⟩ => h.run pins s σ H Q I (i σ H Q G AD Fr env st S p)⟩⟩
theorem mkW {X : Cx} {Y : FC} {W : WX} {e : Expr} {t : TT} {m : En → M Bool} (h : PW X e t)
    (i : ∀ σ H Q G AD Fr env s, SimE (tx X) Y G AD Fr env s σ H → PostR All (tx X) W Fr σ G AD s (m env s) (CT (tx X) Fr Q) → t σ H Q) : DW X Y W e m :=
  ⟨⟨fun wh pins s σ H Q I ⟨G, AD, Fr, env, st, S, p⟩ => h.run wh pins s σ H Q I (i σ H Q G AD Fr env st S p)⟩⟩
theorem stepT {X : Cx} {Y : FC} {W : WX} {ma : En → M Bool} {β : Type} {q : Nat → Prop} {k : Bool → M β} {G : Hp} {AD : AM} {Fr : Hp} {env : En} {s : Sto} {σ : L2.St} {H : Hp} {Q' : Bool → Hp → Prop} {C : β → Hp → AM → Sto → Hp → Prop}
    (S : SimE (tx X) Y G AD Fr env s σ H) (p : PostR q (tx X) W Fr σ G AD s ((ma env s).bnd k) C)
    (h : ∀ v s1 G1 AD1 H1, ma env s = .ok v s1 → Same G G1 → Ext All s AD s1 AD1 → SimE (tx X) Y G1 AD1 Fr env s1 σ H1 → PostR q (tx X) W Fr σ G1 AD1 s1 (k v s1) C → Q' v H1) : tT X Y W ma σ H Q' := by
  refine ⟨G, AD, Fr, env, s, S, ?_⟩
  cases e : ma env s with
  | bad => rw [e] at p; exact p
  | exc d s' =>
    rw [e] at p
    exact fun G' AD' H' cls dx g x => p G' AD' H' cls dx g (x.mono fun _ _ => trivial)
  | ok v s' =>
    rw [e] at p
    have p' : PostR q (tx X) W Fr σ G AD s (k v s') C := p
    exact fun G' AD' H' g x r => h v s' G' AD' H' e g x ⟨r, S.en.mono g x, Nat.le_trans S.bl x.len⟩ (p'.mono g (x.mono fun _ _ => trivial))
inductive VRs (T : TX) (G : Hp) (AD : AM) (s : Sto) : List Val → List V → Prop
  | nil : VRs T G AD s [] []
  | cons {v : Val} {x : V} {vs : List Val} {xs : List V} : VR T G AD s v x → VRs T G AD s vs xs → VRs T G AD s (v :: vs) (x :: xs)
def CA (T : TX) (Fr : Hp) (Q : List V → Hp → Prop) : List Val → Hp → AM → Sto → Hp → Prop := fun vs G' AD' s' H' => ∀ xs, SimS T G' AD' Fr s' H' → VRs T G' AD' s' vs xs → Q xs H'
def tA (X : Cx) (Y : FC) (W : WX) (m : Nat → En → M (List Val)) : TA := fun σ H Q => ∃ n G AD Fr env s, SimE (tx X) Y G AD Fr env s σ H ∧ PostR (fun l => l < n) (tx X) W Fr σ G AD s (m n env s) (CA (tx X) Fr Q)
structure DA (X : Cx) (Y : FC) (W : WX) (es : List Expr) (m : Nat → En → M (List Val)) : Prop where
  pa : PA X es (tA X Y W m)
end DL
end

set_option Elab.async false
set_option linter.all false
set_option maxRecDepth 100000
set_option maxHeartbeats 4000000
noncomputable section
namespace DL
open PySem PySem.Spec PyProof.Rows L2

/-! ## new objects -/
def adPut (AD : AM) (l : Nat) (f : List Str → Addr) : AM := fun l' => if l' = l then f else AD l'
theorem adPut_same {AD : AM} {l : Nat} {f : List Str → Addr} : adPut AD l f l = f := if_pos rfl
theorem adPut_ne {AD : AM} {l l' : Nat} {f : List Str → Addr} (h : l' ≠ l) : adPut AD l f l' = AD l' := if_neg h
theorem Ext.put {s : Sto} {AD : AM} {f : List Str → Addr} : Ext All s AD s (adPut AD s.length f) := ⟨Nat.le_refl _, fun l p o _ h => ⟨⟨o, h⟩, by rw [adPut_ne (Nat.ne_of_lt (res_lt h))]⟩⟩
theorem same_upd {H : Hp} {p : Addr} {o : HO} (h : H p = none) : Same H (upd H p o) := fun b u e => by rw [upd_ne (ne_of_none e h)]; exact e
theorem Same.none {G H : Hp} (g : Same G H) {p : Addr} (h : H p = none) : G p = none := g.free h
/-- every address of a node is tracked -/
theorem Nd.there {T : TX} {G H : Hp} {ad : List Str → Addr} {p : List Str} {o : O} (h : Nd T G H ad p o) : ∃ u, H (ad p) = some u := by
  cases o with
  | lst xs => obtain ⟨vs, h1, h2⟩ := h; exact ⟨_, h1⟩
  | dct kvs =>
    rcases h with ⟨ks, h1, h2⟩ | ⟨es, h1, h2⟩
    · exact ⟨_, h1⟩
    · exact ⟨_, h1⟩
  | ins c fs => obtain ⟨C, dx, vfs, h0, h1, h2⟩ := h; exact ⟨_, h1⟩
/-- Nd leans on the addresses of p and of its children alone -/
theorem Nd.congr {T : TX} {G H : Hp} {ad ad' : List Str → Addr} {p : List Str} {o : O} (h : Nd T G H ad p o) (e : ∀ q, ad' q = ad q) : Nd T G H ad' p o := by
  have : ad' = ad := funext e
  rw [this]; exact h
/-- what is laid new -/
theorem SimS.laid {T : TX} {G : Hp} {AD : AM} {Fr : Hp} {s : Sto} {H : Hp} {p : Addr} {u : HO} (S : SimS T G AD Fr s H) (hp : H p = none) : SimS T G AD Fr s (upd H p u) :=
  ⟨S.gh.trans (same_upd hp), S.fr.trans (same_upd hp), S.fg, fun l q o h => Same.keepNd (same_upd hp) (S.nd l q o h), S.ng, S.nf, S.inj, S.rt⟩
theorem SimS.same {T : TX} {G : Hp} {AD : AM} {Fr : Hp} {s : Sto} {H H' : Hp} (S : SimS T G AD Fr s H) (h : Same H H') : SimS T G AD Fr s H' :=
  ⟨S.gh.trans h, S.fr.trans h, S.fg, fun l q o e => Same.keepNd h (S.nd l q o e), S.ng, S.nf, S.inj, S.rt⟩
theorem SimS.put {T : TX} {G : Hp} {AD : AM} {Fr : Hp} {s : Sto} {H : Hp} {f : List Str → Addr} (S : SimS T G AD Fr s H) : SimS T G (adPut AD s.length f) Fr s H := by
  have k : ∀ l p o, res s l p = some o → adPut AD s.length f l = AD l := fun l p o h => adPut_ne (Nat.ne_of_lt (res_lt h))
  refine ⟨S.gh, S.fr, S.fg, fun l p o h => ?_, fun l p o h => ?_, fun l p o h => ?_, fun l p o l' p' o' h h' e => ?_, S.rt⟩
  · rw [k l p o h]; exact S.nd l p o h
  · rw [k l p o h]; exact S.ng l p o h
  · rw [k l p o h]; exact S.nf l p o h
  · rw [k l p o h, k l' p' o' h'] at e; exact S.inj l p o l' p' o' h h' e
/-- a new object without children, behind the store -/
theorem SimS.push1 {T : TX} {G : Hp} {AD : AM} {Fr : Hp} {s : Sto} {H : Hp} {p : Addr} {u : HO} {ob : O} (S : SimS T G AD Fr s H) (hp : H p = none) (hn : Nd T G (upd H p u) (fun _ => p) [] ob) :
    SimS T G (adPut AD s.length fun _ => p) Fr (s ++ [some [([], ob)]]) (upd H p u) := by
  have S1 := (S.laid (u := u) hp).put (f := fun _ => p)
  have old : ∀ l q o, res (s ++ [some [([], ob)]]) l q = some o → (res s l q = some o ∧ l ≠ s.length) ∨ (l = s.length ∧ q = [] ∧ o = ob) := fun l q o h => by
    by_cases hl : l = s.length
    · subst hl
      rw [res_last] at h
      refine .inr ⟨rfl, ?_⟩
      cases q with
      | nil => exact ⟨rfl, by have h2 : some ob = some o := h; exact (Option.some.inj h2).symm⟩
      | cons a b => have h2 : (none : Option O) = some o := h; cases h2
    · rw [res_append hl] at h
      exact .inl ⟨h, hl⟩
  have npx : ∀ l q o, res s l q = some o → AD l q ≠ p := fun l q o h e => by
    obtain ⟨u', h1⟩ := (S.nd l q o h).there
    rw [e, hp] at h1; cases h1
  refine ⟨S1.gh, S1.fr, S1.fg, fun l q o h => ?_, fun l q o h => ?_, fun l q o h => ?_, fun l q o l' q' o' h h' e => ?_, fun l t h => ?_⟩
  · rcases old l q o h with ⟨h, _⟩ | ⟨rfl, rfl, rfl⟩
    · exact S1.nd l q o h
    · rw [adPut_same]; exact hn
  · rcases old l q o h with ⟨h, _⟩ | ⟨rfl, rfl, rfl⟩
    · exact S1.ng l q o h
    · rw [adPut_same]; exact Same.none S.gh hp
  · rcases old l q o h with ⟨h, _⟩ | ⟨rfl, rfl, rfl⟩
    · exact S1.nf l q o h
    · rw [adPut_same]; exact Same.none S.fr hp
  · rcases old l q o h with ⟨k, hl⟩ | ⟨e1, e2, _⟩
    · rcases old l' q' o' h' with ⟨k', hl'⟩ | ⟨e1', e2', _⟩
      · exact S1.inj l q o l' q' o' k k' e
      · rw [e1', e2', adPut_same, adPut_ne hl] at e; exact absurd e (npx l q o k)
    · rcases old l' q' o' h' with ⟨k', hl'⟩ | ⟨e1', e2', _⟩
      · rw [e1, e2, adPut_same, adPut_ne hl'] at e; exact absurd e.symm (npx l' q' o' k')
      · exact ⟨e1.trans e1'.symm, e2.trans e2'.symm⟩
  · by_cases hl : l < s.length
    · rw [List.getElem?_append_left hl] at h
      exact S.rt l t h
    · have e : l = s.length := by
        have := (List.getElem?_eq_some_iff.mp h).1
        rw [List.length_append, List.length_singleton] at this
        omega
      subst e
      rw [List.getElem?_append_right (Nat.le_refl _), Nat.sub_self] at h
      cases h
      exact ⟨ob, rfl⟩
theorem RV.new {T : TX} {G : Hp} {AD : AM} {Fr : Hp} {s : Sto} {H : Hp} {p : Addr} {u : HO} {ob : O} (S : SimS T G AD Fr s H) (hp : H p = none) (hn : Nd T G (upd H p u) (fun _ => p) [] ob) :
    RV T G (adPut AD s.length fun _ => p) Fr s (upd H p u) (.f [([], ob)]) (.ref p) :=
  ⟨S.push1 hp hn, by rw [adPut_same]⟩
/-- .. that is data at once -/
theorem RV.newD {T : TX} {G : Hp} {AD : AM} {Fr : Hp} {s : Sto} {H : Hp} {p : Addr} {u : HO} {d : D} (S : SimS T G AD Fr s H) (hp : H p = none) (hr : Rep T (upd G p u) (.ref p) d) :
    Same G (upd G p u) ∧ RV T (upd G p u) AD Fr s (upd H p u) (.d d) (.ref p) := by
  have g := Same.none S.gh hp
  have gg : Same G (upd G p u) := same_upd g
  have npx : ∀ l q o, res s l q = some o → AD l q ≠ p := fun l q o h e => by
    obtain ⟨u', h1⟩ := (S.nd l q o h).there
    rw [e, hp] at h1; cases h1
  refine ⟨gg, ⟨fun a o h => ?_, S.fr.trans (same_upd hp), fun a o h => ?_, fun l q o h => (Same.keepNd (same_upd hp) (S.nd l q o h)).monoG gg, fun l q o h => ?_, S.nf, S.inj, S.rt⟩, hr⟩
  · by_cases e : a = p
    · subst e; rw [upd_same] at h ⊢; exact h
    · rw [upd_ne e] at h ⊢; exact S.gh a o h
  · have e : a ≠ p := ne_of_none (S.fr a o h) hp
    rw [upd_ne e]; exact S.fg a o h
  · rw [upd_ne (npx l q o h)]; exact S.ng l q o h
theorem RV.newI {T : TX} {G : Hp} {AD : AM} {Fr : Hp} {s : Sto} {H : Hp} {p : Addr} {u : HO} {d : D} (S : SimS T G AD Fr s H) (hp : H p = none) (hr : ∀ G', Same G G' → G' p = some u → Rep T G' (.ref p) d) :
    ∃ G', Same G G' ∧ RV T G' AD Fr s (upd H p u) (.d d) (.ref p) :=
  ⟨_, RV.newD S hp (hr _ (same_upd (Same.none S.gh hp)) upd_same)⟩

/-! ## a new object becomes data -/
def fldD : List (Str × Fl) → Option (List (Str × D))
  | [] => some []
  | (n, .d x) :: r => (fldD r).map fun l => (n, x) :: l
  | (_, .c) :: _ => none
def fz : Tree → Option D
  | [([], .lst xs)] => some (.lst xs)
  | [([], .dct kvs)] => some (.dct kvs)
  | [([], .ins c fs)] => (fldD fs).map fun l => .obj c l
  | _ => none
def settle : Val → M Val
  | .f t => match fz t with
    | some d => ret (.d d)
    | none => bad
  | v => ret v
theorem repF_of {T : TX} {G : Hp} {ad : List Str → Addr} {p : List Str} : ∀ {fs : List (Str × Fl)} {vfs : List (Str × V)} {l : List (Str × D)}, Paired (NdF T G ad p) vfs fs → fldD fs = some l → RepF T G vfs l
  | [], _, l, .nil, h => by
    have h2 : some [] = some l := h
    cases h2; exact .nil
  | (n, .d x) :: r, (n', v) :: vr, l, .cons q t, h => by
    have h2 : (fldD r).map (fun l => (n, x) :: l) = some l := h
    obtain ⟨l', e1, e2⟩ := Option.map_eq_some_iff.mp h2
    subst e2
    obtain ⟨e, q2⟩ := q
    have e' : n' = n := e
    subst e'
    exact .cons q2 (repF_of t e1)
  | (_, .c) :: _, _, l, _, h => by
    have h2 : (none : Option (List (Str × D))) = some l := h
    cases h2
/-- the one object that a tree without children has -/
theorem fz_one {t : Tree} {d : D} (h : fz t = some d) : ∃ ob, t = [([], ob)] ∧ ∀ T G H ad, Nd T G H ad [] ob → (∃ u, H (ad []) = some u ∧ ∀ G', Same G G' → G' (ad []) = some u → Rep T G' (.ref (ad [])) d) := by
  unfold fz at h
  split at h
  · cases h
    refine ⟨_, rfl, fun T G H ad hn => ?_⟩
    obtain ⟨vs, h1, h2⟩ := hn
    exact ⟨_, h1, fun G' g e => .lst e (h2.mono g)⟩
  · cases h
    refine ⟨_, rfl, fun T G H ad hn => ?_⟩
    rcases hn with ⟨ks, h1, h2⟩ | ⟨es, h1, h2⟩
    · exact ⟨_, h1, fun G' g e => .dctK e (h2.mono g)⟩
    · exact ⟨_, h1, fun G' g e => .dctN e (h2.mono g)⟩
  · obtain ⟨l, e1, e2⟩ := Option.map_eq_some_iff.mp h
    subst e2
    refine ⟨_, rfl, fun T G H ad hn => ?_⟩
    obtain ⟨C, dx, vfs, h0, h1, h2⟩ := hn
    exact ⟨_, h1, fun G' g e => .obj h0 e ((repF_of h2 e1).mono g)⟩
  · cases h
/-- THE FREEZE -/
theorem RV.freeze {T : TX} {G : Hp} {AD : AM} {Fr : Hp} {s : Sto} {H : Hp} {t : Tree} {x : V} {d : D} (r : RV T G AD Fr s H (.f t) x) (h : fz t = some d) : ∃ G', Same G G' ∧ RV T G' AD Fr s H (.d d) x := by
  obtain ⟨S, rfl⟩ := r
  obtain ⟨ob, rfl, hk⟩ := fz_one h
  have hr : res (s ++ [some [([], ob)]]) s.length [] = some ob := by rw [res_last]; rfl
  obtain ⟨u, hu, rep⟩ := hk T G H (AD s.length) (S.nd _ _ _ hr)
  have gn := S.ng _ _ _ hr
  have gg : Same G (upd G (AD s.length []) u) := same_upd gn
  have S0 := S.pre
  have k : ∀ l p o, res s l p = some o → res (s ++ [some [([], ob)]]) l p = some o := fun l p o h => by
    rw [res_append (Nat.ne_of_lt (res_lt h))]; exact h
  have npx : ∀ l q o, res s l q = some o → AD l q ≠ AD s.length [] := fun l q o h e => Nat.ne_of_lt (res_lt h) (S.inj _ _ _ _ _ _ (k l q o h) hr e).1
  refine ⟨_, gg, ⟨fun a o h => ?_, S.fr, fun a o h => ?_, fun l q o h => (S0.nd l q o h).monoG gg, fun l q o h => ?_, S0.nf, S0.inj, S0.rt⟩, rep _ gg upd_same⟩
  · by_cases e : a = AD s.length []
    · subst e; rw [upd_same] at h; cases h; exact hu
    · rw [upd_ne e] at h; exact S.gh a o h
  · have e : a ≠ AD s.length [] := fun e => by
      have z := S.nf _ _ _ hr
      rw [e, z] at h; cases h
    rw [upd_ne e]; exact S.fg a o h
  · rw [upd_ne (npx l q o h)]; exact S0.ng l q o h
theorem settleV {T : TX} {W : WX} {Fr : Hp} {σ : L2.St} {G : Hp} {AD : AM} {s : Sto} {H : Hp} {v : Val} {x : V} {β : Type} {q : Nat → Prop} {k : Val → M β} {C : β → Hp → AM → Sto → Hp → Prop} (r : RV T G AD Fr s H v x) (p : PostR q T W Fr σ G AD s ((settle v s).bnd k) C) :
    ∃ (G' : Hp) (v' : Val), Same G G' ∧ RV T G' AD Fr s H v' x ∧ (∀ t, v' ≠ .f t) ∧ PostR q T W Fr σ G' AD s (k v' s) C := by
  cases v with
  | d y => exact ⟨G, Val.d y, Same.refl G, r, (fun t z => nomatch z), p⟩
  | m l z => exact ⟨G, Val.m l z, Same.refl G, r, (fun t z => nomatch z), p⟩
  | f t =>
    cases e : fz t with
    | none =>
      have p2 : PostR q T W Fr σ G AD s (((match fz t with | some d => ret (Val.d d) | none => bad) s).bnd k) C := p
      rw [e] at p2
      exact p2.elim
    | some d =>
      have p2 : PostR q T W Fr σ G AD s (((match fz t with | some d => ret (Val.d d) | none => bad) s).bnd k) C := p
      rw [e] at p2
      obtain ⟨G', g, r'⟩ := r.freeze e
      exact ⟨G', Val.d d, g, r', (fun t z => nomatch z), PostR.mono p2 g Ext.refl⟩
/-- a part's value, settled -/
def stl (m : En → M Val) : En → M Val := fun env => bnd (m env) settle
theorem DE.stl {X : Cx} {Y : FC} {W : WX} {e : Expr} {m : En → M Val} (h : DE X Y W e m) : DE X Y W e (stl m) := mkE h.pe fun σ H Q G AD Fr env s S p => by
  refine stepE (k := settle) S p fun v s1 G1 AD1 H1 x _ g e' S1 r p1 => ?_
  have p2 : PostR All (tx X) W Fr σ G1 AD1 s1 ((settle v s1).bnd ret) (CE (tx X) Fr Q) := by
    cases h : settle v s1 with
    | ok a s' => rw [h] at p1; exact p1
    | exc a s' => rw [h] at p1; exact p1
    | bad => rw [h] at p1; exact p1
  obtain ⟨G', v', g', r', _, p3⟩ := settleV r p2
  exact p3.done (Same.refl _) Ext.refl r'
end DL
end

set_option Elab.async false
set_option linter.all false
set_option maxRecDepth 100000
set_option maxHeartbeats 4000000
noncomputable section
namespace DL
open PySem PySem.Spec PyProof.Rows L2

/-! ## what a value holds -/
def lstOf (s : Sto) : Val → Option (List D)
  | .d (.lst xs) => some xs
  | .m l p => match res s l p with
    | some (.lst xs) => some xs
    | _ => none
  | _ => none
def dctOf (s : Sto) : Val → Option (List (D × D))
  | .d (.dct xs) => some xs
  | .m l p => match res s l p with
    | some (.dct xs) => some xs
    | _ => none
  | _ => none
/-- as data: what is read -/
def asD (s : Sto) : Val → Option D
  | .d x => some x
  | .m l p => match res s l p with
    | some (.lst xs) => some (.lst xs)
    | _ => none
  | _ => none
section
variable {T : TX} {G : Hp} {AD : AM} {Fr : Hp} {s : Sto} {H : Hp} {v : Val} {x : V}
theorem lst_at (S : SimS T G AD Fr s H) (r : VR T G AD s v x) {xs : List D} (h : lstOf s v = some xs) : ∃ a vs, x = .ref a ∧ H a = some (.lst vs) ∧ RepL T G vs xs := by
  unfold lstOf at h
  split at h
  · cases h
    cases (show Rep T G x (.lst xs) from r) with
    | lst h1 h2 => exact ⟨_, _, rfl, S.gh _ _ h1, h2⟩
  · rename_i l p
    split at h
    · rename_i ys e
      cases h
      obtain ⟨vs, h1, h2⟩ := S.nd _ _ _ e
      exact ⟨_, vs, r.2 _ e, h1, h2⟩
    · cases h
  · cases h
theorem RepL.len : ∀ {vs : List V} {xs : List D}, RepL T G vs xs → vs.length = xs.length
  | _, _, .nil => rfl
  | _, _, .cons _ r => congrArg Nat.succ (RepL.len r)
theorem RepL.get : ∀ {vs : List V} {xs : List D} {i : Nat} {d : D}, RepL T G vs xs → xs[i]? = some d → ∃ y, vs[i]? = some y ∧ Rep T G y d
  | _, _, _, _, .nil, h => by simp at h
  | _, _, 0, d, .cons q r, h => by simp at h; subst h; exact ⟨_, rfl, q⟩
  | _, _, i + 1, d, .cons q r, h => by
    obtain ⟨y, h1, h2⟩ := RepL.get (i := i) (d := d) r (by simpa using h)
    exact ⟨y, by simpa using h1, h2⟩
theorem RepL.app : ∀ {vs : List V} {xs : List D} {ws : List V} {ys : List D}, RepL T G vs xs → RepL T G ws ys → RepL T G (vs ++ ws) (xs ++ ys)
  | _, _, _, _, .nil, r => r
  | _, _, _, _, .cons q t, r => .cons q (RepL.app t r)
theorem RepL.take : ∀ {vs : List V} {xs : List D} (n : Nat), RepL T G vs xs → RepL T G (vs.take n) (xs.take n)
  | _, _, 0, _ => .nil
  | _, _, _ + 1, .nil => .nil
  | _, _, n + 1, .cons q r => .cons q (RepL.take n r)
theorem RepL.drop : ∀ {vs : List V} {xs : List D} (n : Nat), RepL T G vs xs → RepL T G (vs.drop n) (xs.drop n)
  | _, _, 0, r => r
  | _, _, _ + 1, .nil => .nil
  | _, _, n + 1, .cons q r => RepL.drop n r
theorem RepL.set {y : V} {d : D} (q : Rep T G y d) : ∀ {vs : List V} {xs : List D} (n : Nat), RepL T G vs xs → RepL T G (vs.set n y) (xs.set n d)
  | _, _, _, .nil => .nil
  | _, _, 0, .cons _ r => .cons q r
  | _, _, n + 1, .cons p r => .cons p (RepL.set q n r)
theorem RepL.rev : ∀ {vs : List V} {xs : List D}, RepL T G vs xs → RepL T G vs.reverse xs.reverse
  | _, _, .nil => .nil
  | _, _, .cons q r => by
    rw [List.reverse_cons, List.reverse_cons]
    exact RepL.app (RepL.rev r) (.cons q .nil)
end

/-! ## names and constants -/
def eVar (i : Nat) : En → M Val := fun env s => match env[i]? with
  | some (some v) => .ok v s
  | _ => .bad
def eC (d : D) : En → M Val := fun _ s => .ok (.d d) s
section
variable {X : Cx} {Y : FC} {W : WX}
theorem de_var {i : Nat} {x : Str} {pos : Pos} (hN : X.N[i]? = some x) (hv : Vis X.env.scope x) (hd : (x == ("__debug__" : Str)) = false) (hcd : (x == ("__classdict__" : Str)) = false) : DE X Y W (.Name x pos) (eVar i) :=
  mkE (pe_var hN hv hd hcd) fun σ H Q G AD Fr env s S p => by
    unfold eVar at p
    split at p
    · rename_i v e
      obtain ⟨y, h1, h2⟩ := S.en.val i v e
      refine ⟨y, h1, p.done (Same.refl _) Ext.refl ?_⟩
      cases v with
      | d z => exact ⟨S.ss, h2⟩
      | m l q => exact ⟨S.ss, h2⟩
      | f t => exact h2.elim
    · exact p.elim
theorem de_c {e : Expr} {v : V} {d : D} (h : PE X e (tC v)) (r : ∀ G, Rep (tx X) G v d) : DE X Y W e (eC d) := mkE h fun σ H Q G AD Fr env s S p => p.done (Same.refl _) Ext.refl ⟨S.ss, r G⟩
theorem de_int {i j pos} : DE X Y W (.Constant (.int i) j pos) (eC (.int i)) := de_c pe_int fun _ => .int i
theorem de_bl {b j pos} : DE X Y W (.Constant (.bool b) j pos) (eC (.bl b)) := de_c pe_bl fun _ => .bl b
theorem de_non {j pos} : DE X Y W (.Constant .none j pos) (eC .non) := de_c pe_non fun _ => .non
theorem de_str {x j pos} : DE X Y W (.Constant (.str x) j pos) (eC (.str x)) := de_c pe_str fun _ => .str x
theorem de_gstr {x z : Str} {pos : Pos} (hg : Gl X x) (hm : ∃ t, X.mg x = some (.str z t)) (hd : (x == ("__debug__" : Str)) = false := by decide) : DE X Y W (.Name x pos) (eC (.str z)) := by
  obtain ⟨t, hm⟩ := hm
  exact de_c (pe_glob hg hm (show RelV (.str z) _ from ⟨t, rfl⟩) hd) fun _ => .str z
theorem de_gint {x : Str} {i : Int} {pos : Pos} (hg : Gl X x) (hm : ∃ t, X.mg x = some (.int i t)) (hd : (x == ("__debug__" : Str)) = false := by decide) : DE X Y W (.Name x pos) (eC (.int i)) := by
  obtain ⟨t, hm⟩ := hm
  exact de_c (pe_glob hg hm (show RelV (.int i) _ from ⟨t, rfl⟩) hd) fun _ => .int i
theorem de_gref {x : Str} {a : Addr} {d : D} {pos : Pos} (hg : Gl X x) (hm : X.mg x = some (.ref a)) (hr : ∀ G, Rep (tx X) G (.ref a) d) (hd : (x == ("__debug__" : Str)) = false := by decide) : DE X Y W (.Name x pos) (eC d) :=
  de_c (pe_glob hg hm (show RelV (.ref a) _ from rfl) hd) hr
end

/-! ## operations on two values -/
def rOp (T : TX) (op : Val → Val → M Val) : R2 := fun x y H Q => ∃ G AD Fr s vx vy v s', SimS T G AD Fr s H ∧ VR T G AD s vx x ∧ VR T G AD s vy y ∧ op vx vy s = .ok v s' ∧
  ∀ G' AD' H' z, Same G G' → Ext All s AD s' AD' → RV T G' AD' Fr s' H' v z → Q z H'
structure OpD (X : Cx) (f : Value → Value → Sem Value) (op : Val → Val → M Val) : Prop where
  run : OpR X f (rOp (tx X) op)
  nx : ∀ x y s d s', op x y s ≠ .exc d s'
def eOp2 (op : Val → Val → M Val) (a b : En → M Val) : En → M Val := fun env => bnd (stl a env) fun x => bnd (stl b env) fun y => op x y
theorem settle_notf {v : Val} {s s' : Sto} {t : Tree} : settle v s ≠ .ok (.f t) s' := by
  cases v with
  | d y => exact fun h => nomatch h
  | m l p => exact fun h => nomatch h
  | f t' =>
    intro h
    have h2 : (match fz t' with | some d => ret (Val.d d) | none => bad) s = .ok (.f t) s' := h
    cases e : fz t' with
    | none => rw [e] at h2; cases h2
    | some d => rw [e] at h2; cases h2
theorem stl_notf {m : En → M Val} {env : En} {s s' : Sto} {v : Val} (h : stl m env s = .ok v s') : ∀ t, v ≠ .f t := by
  intro t e
  subst e
  have h2 : (m env s).bnd settle = .ok (.f t) s' := h
  cases e : m env s with
  | ok a s1 => rw [e] at h2; exact settle_notf h2
  | exc d s1 => rw [e] at h2; cases h2
  | bad => rw [e] at h2; cases h2
theorem RV.vr {T : TX} {G : Hp} {AD : AM} {Fr : Hp} {s : Sto} {H : Hp} {v : Val} {x : V} (r : RV T G AD Fr s H v x) (h : ∀ t, v ≠ .f t) : VR T G AD s v x := by
  cases v with
  | d y => exact r.2
  | m l p => exact r.2
  | f t => exact absurd rfl (h t)
theorem RV.of {T : TX} {G : Hp} {AD : AM} {Fr : Hp} {s : Sto} {H : Hp} {v : Val} {x : V} (S : SimS T G AD Fr s H) (r : VR T G AD s v x) : RV T G AD Fr s H v x := by
  cases v with
  | d y => exact ⟨S, r⟩
  | m l p => exact ⟨S, r⟩
  | f t => exact r.elim
section
variable {X : Cx} {Y : FC} {W : WX} {a b c : Expr} {ma mb mc : En → M Val} {pos : Pos}
theorem op2_run {op : Val → Val → M Val} (nx : ∀ x y s d s', op x y s ≠ .exc d s') {σ : L2.St} {H : Hp} {Q : VK} {G : Hp} {AD : AM} {Fr : Hp} {env : En} {s : Sto} (S : SimE (tx X) Y G AD Fr env s σ H)
    (p : PostR All (tx X) W Fr σ G AD s (eOp2 op ma mb env s) (CE (tx X) Fr Q)) : tE X Y W (stl ma) σ H fun x H1 => tE X Y W (stl mb) σ H1 fun y H2 => rOp (tx X) op x y H2 Q := by
  refine stepE (k := fun x => bnd (stl mb env) fun y => op x y) S p fun v s1 G1 AD1 H1 x h1 g1 e1 S1 r1 p1 => ?_
  refine stepE (k := fun y => op v y) S1 p1 fun u s2 G2 AD2 H2 y h2 g2 e2 S2 r2 p2 => ?_
  cases hr : op v u s2 with
  | bad => rw [hr] at p2; exact p2.elim
  | exc d s' => exact absurd hr (nx _ _ _ _ _)
  | ok z s3 =>
    rw [hr] at p2
    exact ⟨G2, AD2, Fr, s2, v, u, z, s3, S2.ss, (r1.vr (stl_notf h1)).mono g2 e2, r2.vr (stl_notf h2), hr, fun G' AD' H' w g e r => p2.done g e r⟩
theorem de_op2 {op : Operator} {o : Val → Val → M Val} (O : OpD X (binaryOp op) o) (ha : DE X Y W a ma) (hb : DE X Y W b mb) : DE X Y W (.BinOp a op b pos) (eOp2 o ma mb) :=
  mkE (pe_op O.run ha.stl.pe hb.stl.pe) fun σ H Q G AD Fr env s S p => op2_run O.nx S p
theorem de_cmp {op : CmpOp} {o : Val → Val → M Val} (O : OpD X (compareOp op) o) (ha : DE X Y W a ma) (hb : DE X Y W b mb) (hm : behindInMarks op b = false) : DE X Y W (.Compare a [op] [b] pos) (eOp2 o ma mb) :=
  mkE (pe_cmpR O.run ha.stl.pe hb.stl.pe hm) fun σ H Q G AD Fr env s S p => op2_run O.nx S p
end

/-! ### arithmetic -/
def addV : Val → Val → M Val := fun a b s => match a, b with
  | .d (.int i), .d (.int j) => .ok (.d (.int (i + j))) s
  | .d (.str x), .d (.str y) => if x.length + y.length ≤ sizeLine then .ok (.d (.str (x ++ y))) s else .bad
  | .d (.tup x), .d (.tup y) => if x ≠ [] ∧ x.length + y.length ≤ sizeLine then .ok (.d (.tup (x ++ y))) s else .bad
  | a, b => match lstOf s a, lstOf s b with
    | some x, some y => if x.length + y.length ≤ sizeLine then .ok (.f [([], .lst (x ++ y))]) s else .bad
    | _, _ => .bad
def int2 (C : Int → Int → Prop) [∀ i j, Decidable (C i j)] (g : Int → Int → D) : Val → Val → M Val := fun a b s => match a, b with
  | .d (.int i), .d (.int j) => if C i j then .ok (.d (g i j)) s else .bad
  | _, _ => .bad
theorem int2_eq {C : Int → Int → Prop} [∀ i j, Decidable (C i j)] {g : Int → Int → D} {i j : Int} {s : Sto} (h : C i j) : int2 C g (.d (.int i)) (.d (.int j)) s = .ok (.d (g i j)) s := if_pos h
section
variable {X : Cx}
theorem op_int2 {f : Value → Value → Sem Value} {C : Int → Int → Prop} [∀ i j, Decidable (C i j)] {g : Int → Int → D} {gV : Int → Int → V} (h : OpR X f (rI C gV)) (hr : ∀ G i j, Rep (tx X) G (gV i j) (g i j)) : OpD X f (int2 C g) := by
  refine ⟨fun pins s σ H x y v u Q I rx ry q => ?_, fun x y s d s' => ?_⟩
  · obtain ⟨G, AD, Fr, st, vx, vy, v', s', S, hx, hy, e, q⟩ := q
    unfold int2 at e
    split at e
    · rename_i i j
      split at e
      · rename_i hc
        cases e
        cases (show Rep (tx X) G x (.int i) from hx)
        cases (show Rep (tx X) G y (.int j) from hy)
        exact h pins s σ H _ _ v u Q I rx ry ⟨i, j, rfl, rfl, hc, q G AD H _ (Same.refl _) Ext.refl ⟨S, hr G i j⟩⟩
      · cases e
    · cases e
  · unfold int2
    split
    · split <;> exact fun z => nomatch z
    · exact fun z => nomatch z
theorem opI_true {f : Value → Value → Sem Value} {gV : Int → Int → V} (h : OpR X f (rI0 gV)) : OpR X f (rI (fun _ _ => True) gV) := fun pins s σ H x y v u Q I rx ry ⟨i, j, h1, h2, _, q⟩ => h pins s σ H x y v u Q I rx ry ⟨i, j, h1, h2, q⟩
def tru2 : Int → Int → Prop := fun _ _ => True
instance : ∀ i j, Decidable (tru2 i j) := fun _ _ => .isTrue trivial
def subV := int2 tru2 fun i j => .int (i - j)
theorem od_sub : OpD X (binaryOp .Sub) subV := op_int2 (opI_true op_sub) fun _ _ _ => .int _
def cPos : Int → Int → Prop := fun _ j => 0 < j
instance : ∀ i j, Decidable (cPos i j) := fun _ j => inferInstanceAs (Decidable (0 < j))
def modV := int2 cPos fun i j => .int (i % j)
theorem od_mod : OpD X (binaryOp .Mod) modV := op_int2 op_mod fun _ _ _ => .int _
def cDiv : Int → Int → Prop := fun _ j => 0 < j ∧ j.natAbs.log2 < 9000
instance : ∀ i j, Decidable (cDiv i j) := fun _ j => inferInstanceAs (Decidable (0 < j ∧ j.natAbs.log2 < 9000))
def fdivV := int2 cDiv fun i j => .int (i / j)
theorem od_fdiv : OpD X (binaryOp .FloorDiv) fdivV := op_int2 op_fdivW fun _ _ _ => .int _
def cPow : Int → Int → Prop := fun i j => 0 ≤ j ∧ (Builtin.Int.intBits i : Int) * j ≤ 2 ^ 27
instance : ∀ i j, Decidable (cPow i j) := fun i j => inferInstanceAs (Decidable (0 ≤ j ∧ (Builtin.Int.intBits i : Int) * j ≤ 2 ^ 27))
def powV := int2 cPow fun i j => .int (i ^ j.toNat)
theorem od_pow : OpD X (binaryOp .Pow) powV := op_int2 (C := cPow) (opI fun _ _ _ _ _ _ _ hc q => pow_int hc.1 hc.2 q) fun _ _ _ => .int _
def ltV := int2 tru2 fun i j => .bl (decide (i < j))
theorem od_lt : OpD X (compareOp .Lt) ltV := op_int2 (opI_true op_lt) fun _ _ _ => .bl _
def leV := int2 tru2 fun i j => .bl (decide (i ≤ j))
theorem od_le : OpD X (compareOp .LtE) leV := op_int2 (opI_true op_le) fun _ _ _ => .bl _
def gtV := int2 tru2 fun i j => .bl (decide (j < i))
theorem od_gt : OpD X (compareOp .Gt) gtV := op_int2 (opI_true op_gt) fun _ _ _ => .bl _
def geV := int2 tru2 fun i j => .bl (decide (j ≤ i))
theorem od_ge : OpD X (compareOp .GtE) geV := op_int2 (opI_true op_ge) fun _ _ _ => .bl _
theorem od_add : OpD X (binaryOp .Add) addV := by
  refine ⟨fun pins s σ H x y v u Q I rx ry q => ?_, fun x y s d s' => ?_⟩
  · obtain ⟨G, AD, Fr, st, vx, vy, v', s', S, hx, hy, e, q⟩ := q
    unfold addV at e
    split at e
    · cases e
      cases hx; cases hy
      exact op_add pins s σ H _ _ v u Q I rx ry ⟨_, _, rfl, rfl, q G AD H _ (Same.refl _) Ext.refl ⟨S, .int _⟩⟩
    · split at e
      · rename_i hc
        cases e
        cases hx; cases hy
        exact op_add_str pins s σ H _ _ v u Q I rx ry ⟨_, _, rfl, rfl, hc, q G AD H _ (Same.refl _) Ext.refl ⟨S, .str _⟩⟩
      · cases e
    · split at e
      · rename_i hc
        cases e
        cases hx with
        | tup h1 h2 =>
        cases hy with
        | tup h3 h4 =>
        have l1 := h2.len
        have l2 := h4.len
        refine op_catT pins s σ H _ _ v u Q I rx ry ⟨_, _, _, _, rfl, rfl, sameT S.gh h1, sameT S.gh h3, fun z => hc.1 ?_, by omega, fun z => ?_, fun _ p hp => ?_⟩
        · rw [z] at l1; exact List.eq_nil_of_length_eq_zero l1.symm
        · rw [z] at l2
          have : _ = [] := List.eq_nil_of_length_eq_zero l2.symm
          subst this
          refine q G AD H _ (Same.refl _) Ext.refl ⟨S, ?_⟩
          rw [List.append_nil]
          exact .tup h1 h2
        · obtain ⟨G', k1, k2⟩ := RV.newI S hp fun G' gg e => .tup (SqT.of e) ((h2.app h4).mono gg)
          exact q _ AD _ _ k1 Ext.refl k2
      · cases e
    · split at e
      · rename_i h1 h2
        split at e
        · rename_i hc
          cases e
          obtain ⟨a1, vs1, rfl, k1, r1⟩ := lst_at S hx h1
          obtain ⟨a2, vs2, rfl, k2, r2⟩ := lst_at S hy h2
          have l1 := r1.len
          have l2 := r2.len
          exact op_cat pins s σ H _ _ v u Q I rx ry ⟨_, _, _, _, rfl, rfl, k1, k2, by omega, fun p hp => q G _ _ _ (Same.refl _) Ext.put (RV.new S hp ⟨_, upd_same, r1.app r2⟩)⟩
        · cases e
      · cases e
  · unfold addV
    split
    · exact fun z => nomatch z
    · split <;> exact fun z => nomatch z
    · split <;> exact fun z => nomatch z
    · split
      · split <;> exact fun z => nomatch z
      · exact fun z => nomatch z
end
end DL
end

set_option Elab.async false
set_option linter.all false
set_option maxRecDepth 100000
set_option maxHeartbeats 4000000
noncomputable section
namespace DL
open PySem PySem.Spec PyProof.Rows L2

/-! ### multiplication -/
instance {x : Str} {n : Int} : Decidable (MulOk x n) := by unfold MulOk; infer_instance
instance {i j : Int} : Decidable (IntMulOk i j) := by unfold IntMulOk; infer_instance
def mulV : Val → Val → M Val := fun a b s => match a, b with
  | .d (.int i), .d (.int j) => if IntMulOk i j then .ok (.d (.int (i * j))) s else .bad
  | .d (.str x), .d (.int n) => if MulOk x n then .ok (.d (.str (Txt.mul x n))) s else .bad
  | a, .d (.int k) => match lstOf s a with
    | some xs => if k < 2 ^ 63 ∧ -(2 ^ 63) ≤ k ∧ xs.length * k.toNat ≤ sizeLine then .ok (.f [([], .lst (List.replicate k.toNat xs).flatten)]) s else .bad
    | none => .bad
  | _, _ => .bad
theorem RepL.rep {T : TX} {G : Hp} {vs : List V} {xs : List D} (h : RepL T G vs xs) : ∀ k : Nat, RepL T G (List.replicate k vs).flatten (List.replicate k xs).flatten
  | 0 => .nil
  | k + 1 => by
    rw [List.replicate_succ, List.replicate_succ, List.flatten_cons, List.flatten_cons]
    exact RepL.app h (RepL.rep h k)
section
variable {X : Cx}
theorem od_mul : OpD X (binaryOp .Mult) mulV := by
  refine ⟨fun pins s σ H x y v u Q I rx ry q => ?_, fun x y s d s' => ?_⟩
  · obtain ⟨G, AD, Fr, st, vx, vy, v', s', S, hx, hy, e, q⟩ := q
    unfold mulV at e
    split at e
    · split at e
      · rename_i hc
        cases e
        cases hx; cases hy
        exact (opI (C := IntMulOk) fun _ _ _ _ _ _ _ hc q => mul_int q hc) pins s σ H _ _ v u Q I rx ry ⟨_, _, rfl, rfl, hc, q G AD H _ (Same.refl _) Ext.refl ⟨S, .int _⟩⟩
      · cases e
    · split at e
      · rename_i hc
        cases e
        cases hx; cases hy
        obtain ⟨t, rfl⟩ := rx
        obtain ⟨t', rfl⟩ := ry
        exact SB.mul hc fun t2 k => ⟨.str _, H, I.tok _, ⟨_, rfl⟩, q G AD H _ (Same.refl _) Ext.refl ⟨S, .str _⟩⟩
      · cases e
    · split at e
      · rename_i h1
        split at e
        · rename_i hc
          cases e
          cases hy
          obtain ⟨a1, vs1, rfl, k1, r1⟩ := lst_at S hx h1
          have l1 := r1.len
          exact op_rep pins s σ H _ _ v u Q I rx ry ⟨_, _, _, rfl, rfl, k1, hc.2.1, hc.1, by rw [l1]; exact hc.2.2, fun p hp => q G _ _ _ (Same.refl _) Ext.put (RV.new S hp ⟨_, upd_same, r1.rep _⟩)⟩
        · cases e
      · cases e
    · cases e
  · unfold mulV
    split
    · split <;> exact fun z => nomatch z
    · split <;> exact fun z => nomatch z
    · split
      · split <;> exact fun z => nomatch z
      · exact fun z => nomatch z
    · exact fun z => nomatch z
end

/-! ### equality of data -/
mutual
def toPy : D → Option PyData
  | .non => some .none
  | .bl b => some (.bool b)
  | .int i => some (.int i)
  | .str x => some (.str x)
  | .tup xs => (toPys xs).map .tuple
  | .lst xs => (toPys xs).map .list
  | _ => none
def toPys : List D → Option (List PyData)
  | [] => some []
  | x :: xs => match toPy x, toPys xs with
    | some k, some ks => some (k :: ks)
    | _, _ => none
end
def eqD (a b : D) : Option Bool := match a, b with
  | .int i, .int j => some (decide (i = j))
  | .str x, .str y => some (decide (x = y))
  | a, b => match toPy a, toPy b with
    | some p, some q => if SeqAt.shaped p = true ∧ SeqAt.shaped q = true then some (PyData.eqv p q) else none
    | _, _ => none
section
variable {T : TX} {G H : Hp}
mutual
theorem dp_of (g : Same G H) : ∀ (d : D) {x : V} {p : PyData}, Rep T G x d → toPy d = some p → Dp T.K H x p
  | .non, _, _, .non, e => by cases e; exact .non
  | .bl b, _, _, .bl _, e => by cases e; exact .bl b
  | .int i, _, _, .int _, e => by cases e; exact .int i
  | .str z, _, _, .str _, e => by cases e; exact .str z
  | .tup xs, _, p, .tup h r, e => by
    have e2 : (toPys xs).map PyData.tuple = some p := e
    obtain ⟨ps, e3, e4⟩ := Option.map_eq_some_iff.mp e2
    subst e4
    exact .tup (sameT g h) (dps_of g xs r e3)
  | .lst xs, _, p, .lst h r, e => by
    have e2 : (toPys xs).map PyData.list = some p := e
    obtain ⟨ps, e3, e4⟩ := Option.map_eq_some_iff.mp e2
    subst e4
    exact .lst (SqL.of (g _ _ h)) (dps_of g xs r e3)
  | .scr _, _, _, _, e => by cases e
  | .glo _, _, _, _, e => by cases e
  | .dct _, _, _, _, e => by cases e
  | .obj _ _, _, _, _, e => by cases e
theorem dps_of (g : Same G H) : ∀ (ds : List D) {xs : List V} {ps : List PyData}, RepL T G xs ds → toPys ds = some ps → DpAll T.K H xs ps
  | [], _, _, .nil, e => by cases e; exact .nil
  | d :: ds, _, ps, .cons q r, e => by
    have e2 : (match toPy d, toPys ds with | some k, some ks => some (k :: ks) | _, _ => none) = some ps := e
    cases e3 : toPy d with
    | none => rw [e3] at e2; cases e2
    | some k =>
      cases e4 : toPys ds with
      | none => rw [e3, e4] at e2; cases e2
      | some ks =>
        rw [e3, e4] at e2
        cases e2
        exact .cons (dp_of g d q e3) (dps_of g ds r e4)
end
theorem dp_asD {AD : AM} {Fr : Hp} {s : Sto} {v : Val} {x : V} {d : D} {p : PyData} (S : SimS T G AD Fr s H) (r : VR T G AD s v x) (h : asD s v = some d) (e : toPy d = some p) : Dp T.K H x p := by
  unfold asD at h
  split at h
  · cases h
    exact dp_of S.gh _ r e
  · rename_i l q
    split at h
    · rename_i ys e'
      cases h
      obtain ⟨vs, h1, h2⟩ := S.nd _ _ _ e'
      have e2 : (toPys ys).map PyData.list = some p := e
      obtain ⟨ps, e3, e4⟩ := Option.map_eq_some_iff.mp e2
      subst e4
      rw [r.2 _ e']
      exact .lst (SqL.of h1) (dps_of S.gh ys h2 e3)
    · cases h
  · cases h
theorem rep_int {x : V} {i : Int} (h : Rep T G x (.int i)) : x = .int i := by cases h; rfl
theorem rep_str {x : V} {i : Str} (h : Rep T G x (.str i)) : x = .str i := by cases h; rfl
theorem asD_int {s : Sto} {v : Val} {i : Int} (h : asD s v = some (.int i)) : v = .d (.int i) := by
  unfold asD at h
  split at h
  · cases h; rfl
  · split at h <;> cases h
  · cases h
theorem asD_str {s : Sto} {v : Val} {i : Str} (h : asD s v = some (.str i)) : v = .d (.str i) := by
  unfold asD at h
  split at h
  · cases h; rfl
  · split at h <;> cases h
  · cases h
end
def asD2 (f : D → D → Option D) : Val → Val → M Val := fun a b s => match asD s a, asD s b with
  | some x, some y => match f x y with
    | some d => .ok (.d d) s
    | none => .bad
  | _, _ => .bad
theorem asD2_nx {f : D → D → Option D} (x y : Val) (s : Sto) (d : D) (s' : Sto) : asD2 f x y s ≠ .exc d s' := by
  unfold asD2
  split
  · split <;> exact fun z => nomatch z
  · exact fun z => nomatch z
theorem asD2_ok {f : D → D → Option D} {a b : Val} {s s' : Sto} {v : Val} (h : asD2 f a b s = .ok v s') : ∃ x y d, asD s a = some x ∧ asD s b = some y ∧ f x y = some d ∧ v = .d d ∧ s' = s := by
  unfold asD2 at h
  split at h
  · rename_i x y h1 h2
    split at h
    · rename_i d h3
      cases h
      exact ⟨x, y, d, h1, h2, h3, rfl, rfl⟩
    · cases h
  · cases h
def eqV := asD2 fun x y => (eqD x y).map .bl
def neV := asD2 fun x y => (eqD x y).map fun b => .bl (!b)
theorem eqD_cases {a b : D} {k : Bool} (h : eqD a b = some k) : (∃ i j, a = .int i ∧ b = .int j ∧ k = decide (i = j)) ∨ (∃ i j, a = .str i ∧ b = .str j ∧ k = decide (i = j)) ∨
    ∃ p q, toPy a = some p ∧ toPy b = some q ∧ SeqAt.shaped p = true ∧ SeqAt.shaped q = true ∧ k = PyData.eqv p q := by
  unfold eqD at h
  split at h
  · cases h; exact .inl ⟨_, _, rfl, rfl, rfl⟩
  · cases h; exact .inr (.inl ⟨_, _, rfl, rfl, rfl⟩)
  · split at h
    · rename_i p q h1 h2
      split at h
      · rename_i hc
        cases h
        exact .inr (.inr ⟨p, q, h1, h2, hc.1, hc.2, rfl⟩)
      · cases h
    · cases h
section
variable {X : Cx}
theorem decV {i j : Int} : decide (V.int i = V.int j) = decide (i = j) := by rw [Bool.eq_iff_iff]; simp
theorem decS {i j : Str} : decide (V.str i = V.str j) = decide (i = j) := by rw [Bool.eq_iff_iff]; simp
theorem od_eq (hu : X.A.units + 64 < cLine) : OpD X (compareOp .Eq) eqV := by
  refine ⟨fun pins s σ H x y v u Q I rx ry q => ?_, asD2_nx⟩
  obtain ⟨G, AD, Fr, st, vx, vy, v', s', S, hx, hy, e, q⟩ := q
  obtain ⟨a, b, d, ha, hb, hd, rfl, rfl⟩ := asD2_ok e
  obtain ⟨k, hk, rfl⟩ := Option.map_eq_some_iff.mp hd
  have qq := q G AD H (.bl k) (Same.refl _) Ext.refl ⟨S, .bl k⟩
  rcases eqD_cases hk with ⟨i, j, rfl, rfl, rfl⟩ | ⟨i, j, rfl, rfl, rfl⟩ | ⟨p, q', h1, h2, s1, s2, rfl⟩
  · cases asD_int ha; cases asD_int hb
    cases rep_int hx; cases rep_int hy
    exact op_eq pins s σ H _ _ v u Q I rx ry ⟨rfl, by rw [decV]; exact qq⟩
  · cases asD_str ha; cases asD_str hb
    cases rep_str hx; cases rep_str hy
    exact op_eq pins s σ H _ _ v u Q I rx ry ⟨rfl, by rw [decS]; exact qq⟩
  · exact op_eqD hu pins s σ H _ _ v u Q I rx ry ⟨p, q', dp_asD S hx ha h1, dp_asD S hy hb h2, s1, s2, qq⟩
theorem od_ne (hu : X.A.units + 64 < cLine) : OpD X (compareOp .NotEq) neV := by
  refine ⟨fun pins s σ H x y v u Q I rx ry q => ?_, asD2_nx⟩
  obtain ⟨G, AD, Fr, st, vx, vy, v', s', S, hx, hy, e, q⟩ := q
  obtain ⟨a, b, d, ha, hb, hd, rfl, rfl⟩ := asD2_ok e
  obtain ⟨k, hk, rfl⟩ := Option.map_eq_some_iff.mp hd
  have qq := q G AD H (.bl (!k)) (Same.refl _) Ext.refl ⟨S, .bl _⟩
  rcases eqD_cases hk with ⟨i, j, rfl, rfl, rfl⟩ | ⟨i, j, rfl, rfl, rfl⟩ | ⟨p, q', h1, h2, s1, s2, rfl⟩
  · cases asD_int ha; cases asD_int hb
    cases rep_int hx; cases rep_int hy
    exact op_ne pins s σ H _ _ v u Q I rx ry ⟨rfl, by rw [decV]; exact qq⟩
  · cases asD_str ha; cases asD_str hb
    cases rep_str hx; cases rep_str hy
    exact op_ne pins s σ H _ _ v u Q I rx ry ⟨rfl, by rw [decS]; exact qq⟩
  · exact op_neD hu pins s σ H _ _ v u Q I rx ry ⟨p, q', dp_asD S hx ha h1, dp_asD S hy hb h2, s1, s2, qq⟩

/-! ### is None -/
def isNV : Val → Val → M Val := fun a b s => match a, b with
  | .d x, .d .non => .ok (.d (.bl (decide (x = .non)))) s
  | .m l p, .d .non => match res s l p with
    | some _ => .ok (.d (.bl false)) s
    | none => .bad
  | _, _ => .bad
def notNV : Val → Val → M Val := fun a b s => match a, b with
  | .d x, .d .non => .ok (.d (.bl (!decide (x = .non)))) s
  | .m l p, .d .non => match res s l p with
    | some _ => .ok (.d (.bl true)) s
    | none => .bad
  | _, _ => .bad
theorem rep_non {T : TX} {G : Hp} {x : V} {d : D} (h : Rep T G x d) : decide (x = V.non) = decide (d = .non) := by
  cases h <;> simp
theorem od_isN : OpD X (compareOp .Is) isNV := by
  refine ⟨fun pins s σ H x y v u Q I rx ry q => ?_, fun x y s d s' => ?_⟩
  · obtain ⟨G, AD, Fr, st, vx, vy, v', s', S, hx, hy, e, q⟩ := q
    unfold isNV at e
    split at e
    · cases e
      cases hy
      refine op_isN pins s σ H _ _ v u Q I rx ry ⟨rfl, ?_⟩
      rw [rep_non hx]
      exact q G AD H _ (Same.refl _) Ext.refl ⟨S, .bl _⟩
    · split at e
      · rename_i o ho
        cases e
        cases hy
        refine op_isN pins s σ H _ _ v u Q I rx ry ⟨rfl, ?_⟩
        rw [hx.2 _ ho]
        exact q G AD H _ (Same.refl _) Ext.refl ⟨S, .bl _⟩
      · cases e
    · cases e
  · unfold isNV
    split
    · exact fun z => nomatch z
    · split <;> exact fun z => nomatch z
    · exact fun z => nomatch z
theorem od_notN : OpD X (compareOp .IsNot) notNV := by
  refine ⟨fun pins s σ H x y v u Q I rx ry q => ?_, fun x y s d s' => ?_⟩
  · obtain ⟨G, AD, Fr, st, vx, vy, v', s', S, hx, hy, e, q⟩ := q
    unfold notNV at e
    split at e
    · cases e
      cases hy
      refine op_notN pins s σ H _ _ v u Q I rx ry ⟨rfl, ?_⟩
      rw [rep_non hx]
      exact q G AD H _ (Same.refl _) Ext.refl ⟨S, .bl _⟩
    · split at e
      · rename_i o ho
        cases e
        cases hy
        refine op_notN pins s σ H _ _ v u Q I rx ry ⟨rfl, ?_⟩
        rw [hx.2 _ ho]
        exact q G AD H _ (Same.refl _) Ext.refl ⟨S, .bl _⟩
      · cases e
    · cases e
  · unfold notNV
    split
    · exact fun z => nomatch z
    · split <;> exact fun z => nomatch z
    · exact fun z => nomatch z
end

/-! ## tests, conditions -/
def tVal (m : En → M Val) : En → M Bool := fun env => bnd (m env) fun v s => match v with
  | .d (.bl b) => .ok b s
  | _ => .bad
def tAnd (a b : En → M Bool) : En → M Bool := fun env => bnd (a env) fun x => if x = true then b env else ret false
def tOr (a b : En → M Bool) : En → M Bool := fun env => bnd (a env) fun x => if x = true then ret true else b env
def tNot (a : En → M Bool) : En → M Bool := fun env => bnd (a env) fun x => ret (!x)
def eIf (t : En → M Bool) (a b : En → M Val) : En → M Val := fun env => bnd (t env) fun x => if x = true then a env else b env
def eAnd (a b : En → M Val) : En → M Val := fun env => bnd (a env) fun v s => match v with
  | .d (.bl x) => if x = true then b env s else .ok (.d (.bl false)) s
  | _ => .bad
def eOr (a b : En → M Val) : En → M Val := fun env => bnd (a env) fun v s => match v with
  | .d (.bl x) => if x = true then .ok (.d (.bl true)) s else b env s
  | _ => .bad
def eNot (a : En → M Val) : En → M Val := fun env => bnd (a env) fun v s => match v with
  | .d (.bl x) => .ok (.d (.bl (!x))) s
  | _ => .bad
theorem PostR.doneT {q : Nat → Prop} {T : TX} {W : WX} {Fr : Hp} {σ : L2.St} {G G' : Hp} {AD AD' : AM} {s s' : Sto} {v : Bool} {Q : Bool → Hp → Prop} {H' : Hp} (p : PostR q T W Fr σ G AD s (.ok v s') (CT T Fr Q)) (g : Same G G') (e : Ext q s AD s' AD') (r : SimS T G' AD' Fr s' H') : Q v H' :=
  p G' AD' H' g e r
section
variable {X : Cx} {Y : FC} {W : WX} {e a b c : Expr} {ma mb mc : En → M Val} {ta tb : En → M Bool} {pos : Pos} {rest : List Expr}
theorem dt_val (h : DE X Y W e ma) (he : ∀ whole, isTrue e X.env whole = (do let v ← whole; standAt e.pos; holding [v] (truthy v)) := by intro _; rfl) : DT X Y W e (tVal ma) :=
  mkT (pt_val h.pe he) fun σ H Q G AD Fr env s S p => by
    refine stepE S p fun v s1 G1 AD1 H1 x h1 g1 e1 S1 r1 p1 => ?_
    match v, r1, p1 with
    | .d (.bl b), r1, p1 =>
      cases r1.2
      exact ⟨b, rfl, p1.doneT (Same.refl _) Ext.refl S1.ss⟩
    | .d .non, _, p1 => exact p1.elim
    | .d (.int _), _, p1 => exact p1.elim
    | .d (.str _), _, p1 => exact p1.elim
    | .d (.glo _), _, p1 => exact p1.elim
    | .d (.tup _), _, p1 => exact p1.elim
    | .d (.lst _), _, p1 => exact p1.elim
    | .d (.scr _), _, p1 => exact p1.elim
    | .d (.dct _), _, p1 => exact p1.elim
    | .d (.obj _ _), _, p1 => exact p1.elim
    | .m _ _, _, p1 => exact p1.elim
    | .f _, _, p1 => exact p1.elim
theorem dt_cmp {op : CmpOp} {o : Val → Val → M Val} (O : OpD X (compareOp op) o) (ha : DE X Y W a ma) (hb : DE X Y W b mb) (hm : behindInMarks op b = false) : DT X Y W (.Compare a [op] [b] pos) (tVal (eOp2 o ma mb)) :=
  mkT (pt_cmpR O.run ha.stl.pe hb.stl.pe hm) fun σ H Q G AD Fr env s S p => by
    show L2.tOp (rOp (tx X) o) _ _ σ H _
    have p' : PostR All (tx X) W Fr σ G AD s (eOp2 o ma mb env s) (CE (tx X) Fr fun x H' => ∃ k, x = .bl k ∧ Q k H') := by
      have p0 : PostR All (tx X) W Fr σ G AD s ((eOp2 o ma mb env s).bnd fun v s => match v with | .d (.bl b) => .ok b s | _ => .bad) (CT (tx X) Fr Q) := p
      cases e : eOp2 o ma mb env s with
      | bad => rw [e] at p0; exact p0
      | exc d s' => rw [e] at p0; exact p0
      | ok v s' =>
        rw [e] at p0
        intro G' AD' H' g x y r
        match v, r, p0 with
        | .d (.bl b), r, p0 =>
          cases r.2
          exact ⟨b, rfl, p0 G' AD' H' g x r.ss⟩
        | .d .non, _, p0 => exact p0.elim
        | .d (.int _), _, p0 => exact p0.elim
        | .d (.str _), _, p0 => exact p0.elim
        | .d (.glo _), _, p0 => exact p0.elim
        | .d (.tup _), _, p0 => exact p0.elim
        | .d (.lst _), _, p0 => exact p0.elim
        | .d (.scr _), _, p0 => exact p0.elim
        | .d (.dct _), _, p0 => exact p0.elim
        | .d (.obj _ _), _, p0 => exact p0.elim
        | .m _ _, _, p0 => exact p0.elim
        | .f _, _, p0 => exact p0.elim
    exact op2_run O.nx S p'
theorem dw_and1 (ha : DT X Y W a ta) : DW X Y W (.BoolOp .And [a] pos) ta := ⟨pw_and1 ha.pt⟩
theorem dw_or1 (ha : DT X Y W a ta) : DW X Y W (.BoolOp .Or [a] pos) ta := ⟨pw_or1 ha.pt⟩
theorem dw_and (ha : DT X Y W a ta) (hb : DW X Y W (.BoolOp .And (b :: rest) pos) tb) : DW X Y W (.BoolOp .And (a :: b :: rest) pos) (tAnd ta tb) :=
  mkW (pw_and ha.pt hb.pw) fun σ H Q G AD Fr env s S p => by
    refine stepT S p fun v s1 G1 AD1 H1 h1 g1 e1 S1 p1 => ?_
    cases v with
    | true => exact iteT ⟨_, _, _, _, _, S1, p1⟩
    | false => exact iteF (p1.doneT (Same.refl _) Ext.refl S1.ss)
theorem dw_or (ha : DT X Y W a ta) (hb : DW X Y W (.BoolOp .Or (b :: rest) pos) tb) : DW X Y W (.BoolOp .Or (a :: b :: rest) pos) (tOr ta tb) :=
  mkW (pw_or ha.pt hb.pw) fun σ H Q G AD Fr env s S p => by
    refine stepT S p fun v s1 G1 AD1 H1 h1 g1 e1 S1 p1 => ?_
    cases v with
    | true => exact iteT (p1.doneT (Same.refl _) Ext.refl S1.ss)
    | false => exact iteF ⟨_, _, _, _, _, S1, p1⟩
theorem DW.dt (h : DW X Y W e ta) : DT X Y W e ta := ⟨h.pw.pt⟩
theorem dt_not (ha : DT X Y W a ta) : DT X Y W (.UnaryOp .Not a pos) (tNot ta) :=
  mkT (pt_not ha.pt) fun σ H Q G AD Fr env s S p => by
    refine stepT S p fun v s1 G1 AD1 H1 h1 g1 e1 S1 p1 => ?_
    exact p1.doneT (Same.refl _) Ext.refl S1.ss
theorem de_if (hc : DT X Y W c ta) (ha : DE X Y W a ma) (hb : DE X Y W b mb) : DE X Y W (.IfExp c a b pos) (eIf ta ma mb) :=
  mkE (pe_ifExp hc.pt ha.pe hb.pe) fun σ H Q G AD Fr env s S p => by
    refine stepT S p fun v s1 G1 AD1 H1 h1 g1 e1 S1 p1 => ?_
    cases v with
    | true => exact iteT ⟨_, _, _, _, _, S1, p1⟩
    | false => exact iteF ⟨_, _, _, _, _, S1, p1⟩
theorem bl_case {q : Nat → Prop} {T : TX} {Fr : Hp} {σ : L2.St} {G : Hp} {AD : AM} {s : Sto} {H : Hp} {v : Val} {x : V} {β : Type} {k : Bool → M β} {C : β → Hp → AM → Sto → Hp → Prop} (r : RV T G AD Fr s H v x)
    (p : PostR q T W Fr σ G AD s (match v with | .d (.bl b) => k b s | _ => .bad) C) : ∃ b, x = .bl b ∧ PostR q T W Fr σ G AD s (k b s) C := by
  match v, r, p with
  | .d (.bl b), r, p => cases r.2; exact ⟨b, rfl, p⟩
  | .d .non, _, p0 => exact p0.elim
  | .d (.int _), _, p0 => exact p0.elim
  | .d (.str _), _, p0 => exact p0.elim
  | .d (.glo _), _, p0 => exact p0.elim
  | .d (.tup _), _, p0 => exact p0.elim
  | .d (.lst _), _, p0 => exact p0.elim
  | .d (.scr _), _, p0 => exact p0.elim
  | .d (.dct _), _, p0 => exact p0.elim
  | .d (.obj _ _), _, p0 => exact p0.elim
  | .m _ _, _, p0 => exact p0.elim
  | .f _, _, p0 => exact p0.elim
theorem de_one {op} (h : DE X Y W a ma) : DE X Y W (.BoolOp op [a] pos) ma := ⟨pe_one h.pe⟩
theorem de_and (ha : DE X Y W a ma) (hb : DE X Y W (.BoolOp .And (b :: rest) pos) mb) : DE X Y W (.BoolOp .And (a :: b :: rest) pos) (eAnd ma mb) :=
  mkE (pe_and ha.pe hb.pe) fun σ H Q G AD Fr env s S p => by
    refine stepE S p fun v s1 G1 AD1 H1 x h1 g1 e1 S1 r1 p1 => ?_
    obtain ⟨c, rfl, p2⟩ := bl_case (k := fun c s => if c = true then mb env s else .ok (.d (.bl false)) s) r1 p1
    refine ⟨c, rfl, ?_⟩
    cases c with
    | true => exact iteT ⟨_, _, _, _, _, S1, p2⟩
    | false => exact iteF (PostR.done p2 (Same.refl _) Ext.refl ⟨S1.ss, .bl false⟩)
theorem de_or (ha : DE X Y W a ma) (hb : DE X Y W (.BoolOp .Or (b :: rest) pos) mb) : DE X Y W (.BoolOp .Or (a :: b :: rest) pos) (eOr ma mb) :=
  mkE (pe_or ha.pe hb.pe) fun σ H Q G AD Fr env s S p => by
    refine stepE S p fun v s1 G1 AD1 H1 x h1 g1 e1 S1 r1 p1 => ?_
    obtain ⟨c, rfl, p2⟩ := bl_case (k := fun c s => if c = true then .ok (.d (.bl true)) s else mb env s) r1 p1
    refine ⟨c, rfl, ?_⟩
    cases c with
    | true => exact iteT (PostR.done p2 (Same.refl _) Ext.refl ⟨S1.ss, .bl true⟩)
    | false => exact iteF ⟨_, _, _, _, _, S1, p2⟩
theorem de_not (ha : DE X Y W a ma) : DE X Y W (.UnaryOp .Not a pos) (eNot ma) :=
  mkE (pe_not ha.pe) fun σ H Q G AD Fr env s S p => by
    refine stepE S p fun v s1 G1 AD1 H1 x h1 g1 e1 S1 r1 p1 => ?_
    obtain ⟨c, rfl, p2⟩ := bl_case (k := fun c s => Res.ok (Val.d (.bl (!c))) s) r1 p1
    exact ⟨c, rfl, PostR.done p2 (Same.refl _) Ext.refl ⟨S1.ss, .bl _⟩⟩
end
end DL
end

set_option Elab.async false
set_option linter.all false
set_option maxRecDepth 100000
set_option maxHeartbeats 4000000
noncomputable section
namespace DL
open PySem PySem.Spec PyProof.Rows L2

/-! ## a node is changed -/
def setT (t : Tree) (p : List Str) (o : O) : Tree := t.map fun kv => if kv.1 = p then (kv.1, o) else kv
def upS (s : Sto) (l : Nat) (p : List Str) (o : O) : Sto := match s[l]? with
  | some (some t) => s.set l (some (setT t p o))
  | _ => s
theorem upS_length (s : Sto) (l : Nat) (p : List Str) (o : O) : (upS s l p o).length = s.length := by
  unfold upS
  split
  · rw [List.length_set]
  · rfl
theorem lookup_setT (p q : List Str) (o : O) : ∀ t : Tree, (setT t p o).lookup q = if q = p then (t.lookup p).map (fun _ => o) else t.lookup q
  | [] => by
    show (none : Option O) = if q = p then ((none : Option O).map fun _ => o) else none
    split <;> rfl
  | (r, u) :: t => by
    have ih := lookup_setT p q o t
    show List.lookup q ((if r = p then (r, o) else (r, u)) :: setT t p o) = _
    by_cases hr : r = p
    · subst hr
      rw [if_pos rfl, List.lookup_cons, List.lookup_cons, List.lookup_cons]
      by_cases hq : q = r
      · subst hq
        simp
      · have e1 : (q == r) = false := by simpa using hq
        simp only [e1, ih, if_neg hq]
    · rw [if_neg hr, List.lookup_cons, List.lookup_cons, List.lookup_cons]
      by_cases hq : q = p
      · subst hq
        have e1 : (q == r) = false := by
          have : q ≠ r := fun e => hr e.symm
          simpa using this
        simp only [e1, ih, if_true]
      · simp only [ih, if_neg hq]
theorem res_upS {s : Sto} {l : Nat} {p : List Str} {o o' : O} (h : res s l p = some o) (l' : Nat) (p' : List Str) : res (upS s l p o') l' p' = if l' = l ∧ p' = p then some o' else res s l' p' := by
  have hl := res_lt h
  unfold res at h
  split at h
  · rename_i t ht
    have e : upS s l p o' = s.set l (some (setT t p o')) := by unfold upS; rw [ht]
    rw [e]
    by_cases e1 : l' = l
    · subst e1
      unfold res
      rw [List.getElem?_set_self hl]
      show (setT t p o').lookup p' = _
      rw [lookup_setT, h, ht]
      by_cases e2 : p' = p
      · subst e2; simp
      · simp [e2]
    · unfold res
      rw [List.getElem?_set_ne (Ne.symm e1), if_neg (fun z => e1 z.1)]
  · cases h
theorem SimS.write {T : TX} {G : Hp} {AD : AM} {Fr : Hp} {s : Sto} {H : Hp} {l : Nat} {p : List Str} {o o' : O} {u : HO} (S : SimS T G AD Fr s H) (h : res s l p = some o) (hn : Nd T G (upd H (AD l p) u) (AD l) p o') :
    SimS T G AD Fr (upS s l p o') (upd H (AD l p) u) := by
  have old : ∀ l' q o1, res (upS s l p o') l' q = some o1 → (l' = l ∧ q = p ∧ o1 = o') ∨ (¬ (l' = l ∧ q = p) ∧ res s l' q = some o1) := fun l' q o1 e => by
    rw [res_upS h] at e
    split at e
    · rename_i c; cases e; exact .inl ⟨c.1, c.2, rfl⟩
    · rename_i c; exact .inr ⟨c, e⟩
  have ex : ∀ l' q o1, res (upS s l p o') l' q = some o1 → ∃ o2, res s l' q = some o2 := fun l' q o1 e => by
    rcases old l' q o1 e with ⟨rfl, rfl, _⟩ | ⟨_, e⟩
    · exact ⟨_, h⟩
    · exact ⟨_, e⟩
  refine ⟨fun a u' e => ?_, fun a u' e => ?_, S.fg, fun l' q o1 e => ?_, fun l' q o1 e => ?_, fun l' q o1 e => ?_, fun l' q o1 l2 q2 o2 e1 e2 e => ?_, fun l' t' e => ?_⟩
  · rw [upd_ne (fun z => by rw [z, S.ng _ _ _ h] at e; cases e)]; exact S.gh a u' e
  · rw [upd_ne (fun z => by rw [z, S.nf _ _ _ h] at e; cases e)]; exact S.fr a u' e
  · rcases old l' q o1 e with ⟨rfl, rfl, rfl⟩ | ⟨c, e⟩
    · exact hn
    · have hne : AD l' q ≠ AD l p := fun z => c (S.inj _ _ _ _ _ _ e h z)
      have k := S.nd l' q o1 e
      cases o1 with
      | lst xs => obtain ⟨vs, h1, h2⟩ := k; exact ⟨vs, by rw [upd_ne hne]; exact h1, h2⟩
      | dct kvs =>
        rcases k with ⟨ks, h1, h2⟩ | ⟨es, h1, h2⟩
        · exact .inl ⟨ks, by rw [upd_ne hne]; exact h1, h2⟩
        · exact .inr ⟨es, by rw [upd_ne hne]; exact h1, h2⟩
      | ins c fs => obtain ⟨C, dx, vfs, h0, h1, h2⟩ := k; exact ⟨C, dx, vfs, h0, by rw [upd_ne hne]; exact h1, h2⟩
  · obtain ⟨o2, e2⟩ := ex l' q o1 e; exact S.ng l' q o2 e2
  · obtain ⟨o2, e2⟩ := ex l' q o1 e; exact S.nf l' q o2 e2
  · obtain ⟨o3, e3⟩ := ex l' q o1 e1
    obtain ⟨o4, e4⟩ := ex l2 q2 o2 e2
    exact S.inj l' q o3 l2 q2 o4 e3 e4 e
  · unfold upS at e
    split at e
    · rename_i t ht
      by_cases c : l' = l
      · subst c
        rw [List.getElem?_set_self (res_lt h)] at e
        cases e
        obtain ⟨o3, h3⟩ := S.rt _ t ht
        rw [lookup_setT]
        split
        · rename_i c
          subst c
          exact ⟨o', by rw [h3]; rfl⟩
        · exact ⟨o3, h3⟩
      · rw [List.getElem?_set_ne (Ne.symm c)] at e
        exact S.rt l' t' e
    · exact S.rt l' t' e
theorem Ext.upS {s : Sto} {AD : AM} {l : Nat} {p : List Str} {o o' : O} (h : res s l p = some o) : Ext All s AD (upS s l p o') AD := ⟨by rw [upS_length]; exact Nat.le_refl _, fun l' q o1 _ e => by
  rw [res_upS h] at e
  split at e
  · rename_i c; obtain ⟨rfl, rfl⟩ := c; exact ⟨⟨_, h⟩, rfl⟩
  · exact ⟨⟨_, e⟩, rfl⟩⟩

/-! ## lists of values -/
def vNil : En → M (List Val) := fun _ => ret []
def vCons (m : En → M Val) (r : En → M (List Val)) : En → M (List Val) := fun env => bnd (stl m env) fun v => bnd (r env) fun vs => ret (v :: vs)
def CV (T : TX) (Fr : Hp) (Q : List V → Hp → Prop) : List Val → Hp → AM → Sto → Hp → Prop := fun vs G' AD' s' H' => ∀ xs, SimS T G' AD' Fr s' H' → VRs T G' AD' s' vs xs → Q xs H'
def tV (X : Cx) (Y : FC) (W : WX) (m : En → M (List Val)) : TA := fun σ H Q => ∃ G AD Fr env s, SimE (tx X) Y G AD Fr env s σ H ∧ PostR All (tx X) W Fr σ G AD s (m env s) (CV (tx X) Fr Q)
structure DV (X : Cx) (Y : FC) (W : WX) (es : List Expr) (m : En → M (List Val)) : Prop where
  pa : PA X es (tV X Y W m)
theorem paImp {X : Cx} {es : List Expr} {t t' : TA} (h : PA X es t) (i : ∀ σ H Q, t' σ H Q → t σ H Q) : PA X es t' := ⟨fun pos pins s σ H Q I q => h.run pos pins s σ H Q I (i σ H Q q)⟩
theorem stepV {X : Cx} {Y : FC} {W : WX} {ma : En → M (List Val)} {β : Type} {q : Nat → Prop} {k : List Val → M β} {G : Hp} {AD : AM} {Fr : Hp} {env : En} {s : Sto} {σ : L2.St} {H : Hp} {Q' : List V → Hp → Prop} {C : β → Hp → AM → Sto → Hp → Prop}
    (S : SimE (tx X) Y G AD Fr env s σ H) (p : PostR q (tx X) W Fr σ G AD s ((ma env s).bnd k) C)
    (h : ∀ vs s1 G1 AD1 H1 xs, ma env s = .ok vs s1 → Same G G1 → Ext All s AD s1 AD1 → SimE (tx X) Y G1 AD1 Fr env s1 σ H1 → VRs (tx X) G1 AD1 s1 vs xs → PostR q (tx X) W Fr σ G1 AD1 s1 (k vs s1) C → Q' xs H1) : tV X Y W ma σ H Q' := by
  refine ⟨G, AD, Fr, env, s, S, ?_⟩
  cases e : ma env s with
  | bad => rw [e] at p; exact p
  | exc d s' =>
    rw [e] at p
    exact fun G' AD' H' cls dx g x => p G' AD' H' cls dx g (x.mono fun _ _ => trivial)
  | ok v s' =>
    rw [e] at p
    have p' : PostR q (tx X) W Fr σ G AD s (k v s') C := p
    exact fun G' AD' H' g x xs r rs => h v s' G' AD' H' xs e g x ⟨r, S.en.mono g x, Nat.le_trans S.bl x.len⟩ rs (p'.mono g (x.mono fun _ _ => trivial))
theorem VRs.mono {T : TX} {G G' : Hp} {AD AD' : AM} {s s' : Sto} (g : Same G G') (e : Ext All s AD s' AD') : ∀ {vs : List Val} {xs : List V}, VRs T G AD s vs xs → VRs T G' AD' s' vs xs
  | _, _, .nil => .nil
  | _, _, .cons r t => .cons (r.mono g e) (VRs.mono g e t)
theorem VRs.len {T : TX} {G : Hp} {AD : AM} {s : Sto} : ∀ {vs : List Val} {xs : List V}, VRs T G AD s vs xs → vs.length = xs.length
  | _, _, .nil => rfl
  | _, _, .cons _ t => congrArg Nat.succ (VRs.len t)
section
variable {X : Cx} {Y : FC} {W : WX} {e a b c : Expr} {es : List Expr} {ma mb mc : En → M Val} {mv : En → M (List Val)} {ta tb : En → M Bool} {pos : Pos}
theorem dv_nil : DV X Y W [] vNil := ⟨paImp pa_nil fun σ H Q ⟨G, AD, Fr, env, s, S, p⟩ => p G AD H (Same.refl _) Ext.refl [] S.ss .nil⟩
theorem dv_cons (ha : DE X Y W e ma) (hr : DV X Y W es mv) (hs : starEach (e :: es) X.env = (false, eval e X.env) :: starEach es X.env) : DV X Y W (e :: es) (vCons ma mv) :=
  ⟨paImp (pa_cons ha.stl.pe hr.pa hs) fun σ H Q ⟨G, AD, Fr, env, s, S, p⟩ => by
    refine stepE (k := fun v => bnd (mv env) fun vs => ret (v :: vs)) S p fun v s1 G1 AD1 H1 x h1 g1 e1 S1 r1 p1 => ?_
    refine stepV (k := fun vs => ret (v :: vs)) S1 p1 fun vs s2 G2 AD2 H2 xs h2 g2 e2 S2 r2 p2 => ?_
    exact p2 G2 AD2 H2 (Same.refl _) Ext.refl (x :: xs) S2.ss (.cons ((r1.vr (stl_notf h1)).mono g2 e2) r2)⟩

/-! ## displays -/
def dsOf : List Val → Option (List D)
  | [] => some []
  | .d x :: r => (dsOf r).map fun l => x :: l
  | _ :: _ => none
theorem repL_of {T : TX} {G : Hp} {AD : AM} {s : Sto} : ∀ {vs : List Val} {xs : List V} {ds : List D}, VRs T G AD s vs xs → dsOf vs = some ds → RepL T G xs ds
  | [], _, _, .nil, h => by
    have h2 : some [] = some _ := h
    cases h2; exact .nil
  | .d x :: r, _, ds, .cons q t, h => by
    have h2 : (dsOf r).map (fun l => x :: l) = some ds := h
    obtain ⟨l, e1, e2⟩ := Option.map_eq_some_iff.mp h2
    subst e2
    exact .cons q (repL_of t e1)
  | .m _ _ :: _, _, _, _, h => by
    have h2 : (none : Option (List D)) = some _ := h
    cases h2
  | .f _ :: _, _, _, _, h => by
    have h2 : (none : Option (List D)) = some _ := h
    cases h2
def mkTup (vs : List Val) : M Val := fun s => match dsOf vs with
  | some ds => if ds.length ≤ sizeLine then .ok (.d (.tup ds)) s else .bad
  | none => .bad
def mkLst (vs : List Val) : M Val := fun s => match dsOf vs with
  | some ds => if ds.length ≤ sizeLine then .ok (.f [([], .lst ds)]) s else .bad
  | none => .bad
def eTup (mv : En → M (List Val)) : En → M Val := fun env => bnd (mv env) mkTup
def eLst (mv : En → M (List Val)) : En → M Val := fun env => bnd (mv env) mkLst
theorem de_tup {x1} (h : DV X Y W es mv) : DE X Y W (.Tuple es x1 pos) (eTup mv) :=
  mkE (pe_tup h.pa) fun σ H Q G AD Fr env s S p => by
    refine stepV S p fun vs s1 G1 AD1 H1 xs h1 g1 e1 S1 r1 p1 => ?_
    unfold mkTup at p1
    split at p1
    · rename_i ds hd
      split at p1
      · rename_i hc
        have rr := repL_of r1 hd
        refine ⟨by rw [rr.len]; exact hc, fun t ht => ?_⟩
        obtain ⟨G', k1, k2⟩ := RV.newI S1.ss ht fun G' gg e => .tup (SqT.of e) (rr.mono gg)
        exact p1.done k1 Ext.refl k2
      · exact p1.elim
    · exact p1.elim
theorem de_lst (h : DV X Y W es mv) : DE X Y W (.List es pos) (eLst mv) :=
  mkE (pe_lst h.pa) fun σ H Q G AD Fr env s S p => by
    refine stepV S p fun vs s1 G1 AD1 H1 xs h1 g1 e1 S1 r1 p1 => ?_
    unfold mkLst at p1
    split at p1
    · rename_i ds hd
      split at p1
      · rename_i hc
        have rr := repL_of r1 hd
        refine ⟨by rw [rr.len]; exact hc, fun t ht => ?_⟩
        exact p1.done (Same.refl _) Ext.put (RV.new S1.ss ht ⟨_, upd_same, rr⟩)
      · exact p1.elim
    · exact p1.elim
end

/-! ## subscripts -/
structure IxD (X : Cx) (op : Val → Val → M Val) : Prop where
  run : IxR X (rOp (tx X) op)
  nx : ∀ x y s d s', op x y s ≠ .exc d s'
def ixSeq : Val → Val → M Val := fun a b s => match b with
  | .d (.int i) => match a with
    | .d (.tup xs) => match atI xs i with
      | some d => .ok (.d d) s
      | none => .bad
    | .d (.scr xs) => match atI xs i with
      | some d => .ok (.d d) s
      | none => .bad
    | .d (.str z) => if z.length ≤ sizeLine then match atI z.cps.toList i with
      | some c => .ok (.d (.str ⟨#[c]⟩)) s
      | none => .bad else .bad
    | a => match lstOf s a with
      | some xs => match atI xs i with
        | some d => .ok (.d d) s
        | none => .bad
      | none => .bad
  | _ => .bad
theorem atI_rep {T : TX} {G : Hp} {vs : List V} {xs : List D} {i : Int} {d : D} (r : RepL T G vs xs) (h : atI xs i = some d) : ∃ y, atI vs i = some y ∧ Rep T G y d := by
  unfold atI at h ⊢
  rw [r.len]
  cases e : ixN xs.length i with
  | none => rw [e] at h; cases h
  | some j =>
    rw [e] at h
    obtain ⟨y, h1, h2⟩ := r.get (show xs[j]? = some d from h)
    exact ⟨y, h1, h2⟩
section
variable {X : Cx} {Y : FC} {W : WX} {e a b c : Expr} {es : List Expr} {ma mb mc : En → M Val} {mv : En → M (List Val)} {ta tb : En → M Bool} {pos : Pos}
theorem id_seq : IxD X ixSeq := by
  refine ⟨fun value slice pins s σ H x y v u Q I rx ry q hs => ?_, fun x y s d s' => ?_⟩
  · obtain ⟨G, AD, Fr, st, vx, vy, v', s', S, hx, hy, e, q⟩ := q
    unfold ixSeq at e
    split at e
    · cases hy
      split at e
      · split at e
        · rename_i hc
          cases e
          cases hx with
          | tup h1 h2 =>
          obtain ⟨z, k1, k2⟩ := atI_rep h2 hc
          exact ix_tup value slice pins s σ H _ _ v u Q I rx ry ⟨_, _, _, z, rfl, rfl, sameT S.gh h1, k1, q G AD H _ (Same.refl _) Ext.refl ⟨S, k2⟩⟩ hs
        · cases e
      · split at e
        · rename_i hc
          cases e
          cases hx with
          | scr h1 h2 =>
          obtain ⟨z, k1, k2⟩ := atI_rep h2 hc
          exact ix_list value slice pins s σ H _ _ v u Q I rx ry ⟨_, _, _, z, rfl, rfl, Same.seq S.gh h1, k1, q G AD H _ (Same.refl _) Ext.refl ⟨S, k2⟩⟩ hs
        · cases e
      · split at e
        · rename_i hl
          split at e
          · rename_i hc
            cases e
            cases hx
            exact ix_str value slice pins s σ H _ _ v u Q I rx ry ⟨_, _, _, rfl, rfl, hl, hc, q G AD H _ (Same.refl _) Ext.refl ⟨S, .str _⟩⟩ hs
          · cases e
        · cases e
      · split at e
        · rename_i hl
          split at e
          · rename_i hc
            cases e
            obtain ⟨a1, vs1, rfl, k1, r1⟩ := lst_at S hx hl
            obtain ⟨z, k2, k3⟩ := atI_rep r1 hc
            exact ix_list value slice pins s σ H _ _ v u Q I rx ry ⟨_, _, _, z, rfl, rfl, SqL.of k1, k2, q G AD H _ (Same.refl _) Ext.refl ⟨S, k3⟩⟩ hs
          · cases e
        · cases e
    · cases e
  · unfold ixSeq
    repeat' split
    all_goals exact fun z => nomatch z
theorem de_ix {op : Val → Val → M Val} (O : IxD X op) (ha : DE X Y W a ma) (hb : DE X Y W b mb) (hs : PlainIx b) : DE X Y W (.Subscript a b pos) (eOp2 op ma mb) :=
  mkE (pe_ix O.run ha.stl.pe hb.stl.pe hs) fun σ H Q G AD Fr env s S p => op2_run O.nx S p
end
end DL
end

set_option Elab.async false
set_option linter.all false
set_option maxRecDepth 100000
set_option maxHeartbeats 4000000
noncomputable section
namespace DL
open PySem PySem.Spec PyProof.Rows L2

/-- data alone -/
def Val.cD {α : Type} (v : Val) (k : D → α) (z : α) : α := match v with
  | .d x => k x
  | _ => z

/-! ## statements -/
inductive Fw where
  | nx | bk | ct | rt (v : Val)
inductive SR where
  | ok (f : Fw) (env : En) (s : Sto) | exc (d : D) (env : En) (s : Sto) | bad
abbrev SM := En → Sto → SR
def Res.sb {α : Type} (r : Res α) (env : En) (k : α → Sto → SR) : SR := match r with
  | .ok a s => k a s
  | .exc d s => .exc d env s
  | .bad => .bad
abbrev Bl (Y : FC) : Nat → Prop := fun l => l < Y.b
def FwP (T : TX) (Y : FC) (Fr : Hp) (D : Ends) (f : Fw) (env' : En) (G' : Hp) (AD' : AM) (s' : Sto) (σ' : L2.St) (H' : Hp) : Prop := match f with
  | .nx => SimE T Y G' AD' Fr env' s' σ' H' → D.nx σ' H'
  | .bk => SimE T Y G' AD' Fr env' s' σ' H' → D.bk σ' H'
  | .ct => SimE T Y G' AD' Fr env' s' σ' H' → D.ct σ' H'
  | .rt v => ∀ x, RV T G' AD' Fr s' H' v x → D.rt x H'
def PostS (T : TX) (Y : FC) (W : WX) (Fr : Hp) (G : Hp) (AD : AM) (s : Sto) (r : SR) (D : Ends) : Prop := match r with
  | .bad => False
  | .ok f env' s' => ∀ G' AD' H' σ', Same G G' → Ext (Bl Y) s AD s' AD' → FwP T Y Fr D f env' G' AD' s' σ' H'
  | .exc d env' s' => ∀ G' AD' H' σ' cls dx, Same G G' → Ext (Bl Y) s AD s' AD' → SimE T Y G' AD' Fr env' s' σ' H' → ExR T G' cls dx d → W cls dx σ' H'
theorem PostS.mono {T : TX} {Y : FC} {W : WX} {Fr : Hp} {G G1 : Hp} {AD AD1 : AM} {s s1 : Sto} {r : SR} {D : Ends} (h : PostS T Y W Fr G AD s r D) (g : Same G G1) (e : Ext (Bl Y) s AD s1 AD1) : PostS T Y W Fr G1 AD1 s1 r D := by
  cases r with
  | bad => exact h
  | ok f env' s' => exact fun G' AD' H' σ' g' e' => h G' AD' H' σ' (g.trans g') (e.trans e')
  | exc d env' s' => exact fun G' AD' H' σ' cls dx g' e' => h G' AD' H' σ' cls dx (g.trans g') (e.trans e')
def tS (X : Cx) (Y : FC) (W : WX) (m : SM) : TS := fun D σ H => ∃ G AD Fr env s, SimE (tx X) Y G AD Fr env s σ H ∧ PostS (tx X) Y W Fr G AD s (m env s) D
structure DS (X : Cx) (Y : FC) (W : WX) (st : Stmt) (m : SM) : Prop where
  ps : PS X st (tS X Y W m)
structure DB (X : Cx) (Y : FC) (W : WX) (st : List Stmt) (m : SM) : Prop where
  ps : PSs X st (tS X Y W m)
theorem mkS {X : Cx} {Y : FC} {W : WX} {st : Stmt} {t : TS} {m : SM} (h : PS X st t)
    (i : ∀ D σ H G AD Fr env s, SimE (tx X) Y G AD Fr env s σ H → PostS (tx X) Y W Fr G AD s (m env s) D → t D σ H) : DS X Y W st m :=
  ⟨⟨fun pins s σ H D I ⟨G, AD, Fr, env, st, S, p⟩ => h.run pins s σ H D I (i D σ H G AD Fr env st S p)⟩⟩
theorem mkB {X : Cx} {Y : FC} {W : WX} {st : List Stmt} {t : TS} {m : SM} (h : PSs X st t)
    (i : ∀ D σ H G AD Fr env s, SimE (tx X) Y G AD Fr env s σ H → PostS (tx X) Y W Fr G AD s (m env s) D → t D σ H) : DB X Y W st m :=
  ⟨⟨fun pins s σ H D I ⟨G, AD, Fr, env, st, S, p⟩ => h.run pins s σ H D I (i D σ H G AD Fr env st S p)⟩⟩
section
variable {X : Cx} {Y : FC} {W : WX} {G : Hp} {AD : AM} {Fr : Hp} {env : En} {s : Sto} {σ : L2.St} {H : Hp} {D : Ends}
theorem stepSE {ma : En → M Val} {k : Val → Sto → SR} {Q' : VK} (S : SimE (tx X) Y G AD Fr env s σ H) (p : PostS (tx X) Y W Fr G AD s ((ma env s).sb env k) D)
    (h : ∀ v s1 G1 AD1 H1 x, ma env s = .ok v s1 → Same G G1 → Ext All s AD s1 AD1 → SimE (tx X) Y G1 AD1 Fr env s1 σ H1 → RV (tx X) G1 AD1 Fr s1 H1 v x → PostS (tx X) Y W Fr G1 AD1 s1 (k v s1) D → Q' x H1) : tE X Y W ma σ H Q' := by
  refine ⟨G, AD, Fr, env, s, S, ?_⟩
  cases e : ma env s with
  | bad => rw [e] at p; exact p
  | exc d s' =>
    rw [e] at p
    exact fun G' AD' H' cls dx g x r er => p G' AD' H' σ cls dx g (x.mono fun _ _ => trivial) ⟨r, S.en.mono g x, Nat.le_trans S.bl x.len⟩ er
  | ok v s' =>
    rw [e] at p
    have p' : PostS (tx X) Y W Fr G AD s (k v s') D := p
    exact fun G' AD' H' g x y r => h v s' G' AD' H' y e g x ⟨r.ss, S.en.mono g x, Nat.le_trans S.bl x.len⟩ r (p'.mono g (x.mono fun _ _ => trivial))
theorem stepST {ma : En → M Bool} {k : Bool → Sto → SR} {Q' : Bool → Hp → Prop} (S : SimE (tx X) Y G AD Fr env s σ H) (p : PostS (tx X) Y W Fr G AD s ((ma env s).sb env k) D)
    (h : ∀ v s1 G1 AD1 H1, ma env s = .ok v s1 → Same G G1 → Ext All s AD s1 AD1 → SimE (tx X) Y G1 AD1 Fr env s1 σ H1 → PostS (tx X) Y W Fr G1 AD1 s1 (k v s1) D → Q' v H1) : tT X Y W ma σ H Q' := by
  refine ⟨G, AD, Fr, env, s, S, ?_⟩
  cases e : ma env s with
  | bad => rw [e] at p; exact p
  | exc d s' =>
    rw [e] at p
    exact fun G' AD' H' cls dx g x r er => p G' AD' H' σ cls dx g (x.mono fun _ _ => trivial) ⟨r, S.en.mono g x, Nat.le_trans S.bl x.len⟩ er
  | ok v s' =>
    rw [e] at p
    have p' : PostS (tx X) Y W Fr G AD s (k v s') D := p
    exact fun G' AD' H' g x r => h v s' G' AD' H' e g x ⟨r, S.en.mono g x, Nat.le_trans S.bl x.len⟩ (p'.mono g (x.mono fun _ _ => trivial))
theorem PostS.nx {env' : En} {s' : Sto} {G' : Hp} {AD' : AM} {σ' : L2.St} {H' : Hp} {T : TX} (p : PostS T Y W Fr G AD s (.ok .nx env' s') D) (g : Same G G') (e : Ext (Bl Y) s AD s' AD') (S : SimE T Y G' AD' Fr env' s' σ' H') : D.nx σ' H' := p G' AD' H' σ' g e S

/-! ### small statements -/
def sNil : SM := fun env s => .ok .nx env s
def sSeq (a b : SM) : SM := fun env s => match a env s with
  | .ok .nx env' s' => b env' s'
  | r => r
def sPass : SM := sNil
def sCnt : SM := fun env s => .ok .ct env s
def sBrk : SM := fun env s => .ok .bk env s
def sBad : SM := fun _ _ => .bad
def sIf (t : En → M Bool) (a b : SM) : SM := fun env s => (t env s).sb env fun c s1 => if c = true then a env s1 else b env s1
def sExpr (m : En → M Val) : SM := fun env s => (m env s).sb env fun _ s1 => .ok .nx env s1
def sSet (i : Nat) (m : En → M Val) : SM := fun env s => (stl m env s).sb env fun v s1 => v.cD (fun x => .ok .nx (env.set i (some (.d x))) s1) .bad
/-- a mutable object, moved out of its root -/
def moveV : Val → M Val := fun v s => match v with
  | .m l [] => match s[l]? with
    | some (some t) => .ok (.f t) (s.set l none)
    | _ => .bad
  | .m _ _ => .bad
  | v => .ok v s
def eMove (m : En → M Val) : En → M Val := fun env => bnd (m env) moveV
def sRet (m : En → M Val) : SM := fun env s => (m env s).sb env fun v s1 => match v with
  | .m _ _ => .bad
  | v => .ok (.rt v) env s1
def sRetN : SM := fun env s => .ok (.rt (.d .non)) env s
/-- x = a new mutable object, at its own root -/
def sOwn (b i k : Nat) (m : En → M Val) : SM := fun env s => (m env s).sb env fun v s1 => match v with
  | .f t => if b + k < s1.length then .ok .nx (env.set i (some (.m (b + k) []))) (s1.set (b + k) (some t)) else .bad
  | .d x => .ok .nx (env.set i (some (.d x))) s1
  | _ => .bad
end
theorem db_nil {X : Cx} {Y : FC} {W : WX} : DB X Y W [] sNil := mkB pss_nil fun D σ H G AD Fr env s S p => p.nx (Same.refl _) Ext.refl S
section
variable {X : Cx} {Y : FC} {W : WX} {st : Stmt} {rest : List Stmt} {a b : SM} {e c : Expr} {m : En → M Val} {t : En → M Bool} {pos : Pos}
theorem seq_run {D : Ends} {G : Hp} {AD : AM} {Fr : Hp} {s : Sto} {T : TX} {r : SR} {X' : L2.St → Hp → Prop} (p : PostS T Y W Fr G AD s (match r with | .ok .nx env' s' => b env' s' | r => r) D)
    (h : ∀ env' s' G' AD' σ' H', r = .ok .nx env' s' → SimE T Y G' AD' Fr env' s' σ' H' → PostS T Y W Fr G' AD' s' (b env' s') D → X' σ' H') : PostS T Y W Fr G AD s r { D with nx := X' } := by
  cases r with
  | bad => exact p
  | exc d env' s' => exact p
  | ok f env' s' =>
    cases f with
    | nx =>
      intro G' AD' H' σ' g e S
      exact h env' s' G' AD' σ' H' rfl S (PostS.mono p g e)
    | bk => exact p
    | ct => exact p
    | rt v => exact p
theorem db_cons (h1 : DS X Y W st a) (h2 : DB X Y W rest b) : DB X Y W (st :: rest) (sSeq a b) := mkB (pss_cons h1.ps h2.ps) fun D σ H G AD Fr env s S p =>
  ⟨G, AD, Fr, env, s, S, seq_run (b := b) p fun env' s' G' AD' σ' H' _ S' p' => ⟨G', AD', Fr, env', s', S', p'⟩⟩
theorem ds_pass : DS X Y W (.Pass pos) sPass := mkS ps_pass fun D σ H G AD Fr env s S p => p.nx (Same.refl _) Ext.refl S
theorem ds_cnt : DS X Y W (.Continue pos) sCnt := mkS ps_continue fun D σ H G AD Fr env s S p => p G AD H σ (Same.refl _) Ext.refl S
theorem ds_brk : DS X Y W (.Break pos) sBrk := mkS ps_break fun D σ H G AD Fr env s S p => p G AD H σ (Same.refl _) Ext.refl S
theorem ds_bad : DS X Y W st sBad := mkS ps_never fun D σ H G AD Fr env s S p => p
theorem ds_if {sa sb : List Stmt} (hc : DT X Y W c t) (ha : DB X Y W sa a) (hb : DB X Y W sb b) : DS X Y W (.If c sa sb pos) (sIf t a b) := mkS (ps_if hc.pt ha.ps hb.ps) fun D σ H G AD Fr env s S p => by
  refine stepST S p fun v s1 G1 AD1 H1 h1 g1 e1 S1 p1 => ?_
  cases v with
  | true => exact iteT ⟨_, _, _, _, _, S1, p1⟩
  | false => exact iteF ⟨_, _, _, _, _, S1, p1⟩
theorem ds_expr (h : DE X Y W e m) (hs : swapsWith e none pos.line X.env = pure false) : DS X Y W (.Expr e pos) (sExpr m) := mkS (ps_expr h.pe hs) fun D σ H G AD Fr env s S p => by
  refine stepSE S p fun v s1 G1 AD1 H1 x h1 g1 e1 S1 r1 p1 => ?_
  exact p1.nx (Same.refl _) Ext.refl S1
theorem EnvOk.set {T : TX} {G : Hp} {AD : AM} {env : En} {s : Sto} {σ : L2.St} (E : EnvOk T Y G AD env s σ) {i : Nat} {d : D} {x : V} (r : Rep T G x d) : EnvOk T Y G AD (env.set i (some (.d d))) s (σ.set i (some x)) := by
  refine ⟨by rw [List.length_set, List.length_set]; exact E.len, fun j v h => ?_, fun j l p h => ?_, E.g0, fun p hp h => ?_⟩
  · by_cases hj : i = j
    · subst hj
      have hl : i < env.length := by
        obtain ⟨h1, _⟩ := List.getElem?_eq_some_iff.mp h
        rw [List.length_set] at h1; exact h1
      rw [List.getElem?_set_self hl] at h
      cases h
      exact ⟨x, by rw [List.getElem?_set_self (by rw [← E.len]; exact hl)], r⟩
    · rw [List.getElem?_set_ne hj] at h ⊢
      exact E.val j v h
  · by_cases hj : i = j
    · subst hj
      have hl : i < env.length := by
        obtain ⟨h1, _⟩ := List.getElem?_eq_some_iff.mp h
        rw [List.length_set] at h1; exact h1
      rw [List.getElem?_set_self hl] at h
      cases h
    · rw [List.getElem?_set_ne hj] at h
      exact E.own j l p h
  · by_cases hj : i = p.1
    · subst hj
      have hl : p.1 < env.length := by
        obtain ⟨h1, _⟩ := List.getElem?_eq_some_iff.mp h
        rw [List.length_set] at h1; exact h1
      rw [List.getElem?_set_self hl] at h
      cases h
    · rw [List.getElem?_set_ne hj] at h ⊢
      exact E.px p hp h
theorem d_case {q : Prop} {T : TX} {G : Hp} {AD : AM} {Fr : Hp} {s : Sto} {H : Hp} {v : Val} {x : V} {k : D → Sto → SR} {D : Ends} (r : RV T G AD Fr s H v x)
    (p : PostS T Y W Fr G AD s (v.cD (fun y => k y s) .bad) D) (h : ∀ y, v = .d y → Rep T G x y → PostS T Y W Fr G AD s (k y s) D → q) : q := by
  cases v with
  | d y => exact h y rfl r.2 p
  | m l z => exact p.elim
  | f z => exact p.elim
theorem ds_set {i : Nat} {x : Str} {pos' : Pos} (h : DE X Y W e m) (hN : X.N.Nodup) (hi : X.N[i]? = some x) (hx : Loc X.env.scope x) (hs : swapsWith e (some (.Name x pos')) pos.line X.env = pure false)
    (hf : X.fn x = true ∨ X.env.scope.names.lookup x = some .local) : DS X Y W (.Assign [.Name x pos'] e pos) (sSet i m) := mkS (ps_set hN hi hx h.stl.pe hs hf) fun D σ H G AD Fr env s S p => by
  refine stepSE S p fun v s1 G1 AD1 H1 x h1 g1 e1 S1 r1 p1 => ?_
  refine d_case (k := fun y s => .ok .nx (env.set i (some (.d y))) s) r1 p1 fun y hy ry p2 => ?_
  exact PostS.nx p2 (Same.refl _) Ext.refl ⟨S1.ss, S1.en.set ry, S1.bl⟩
theorem ds_ret (h : DE X Y W e m) : DS X Y W (.Return (some e) pos) (sRet m) := mkS (ps_ret h.pe) fun D σ H G AD Fr env s S p => by
  refine stepSE S p fun v s1 G1 AD1 H1 x h1 g1 e1 S1 r1 p1 => ?_
  cases v with
  | d y => exact p1 G1 AD1 H1 σ (Same.refl _) Ext.refl x r1
  | m l z => exact p1.elim
  | f z => exact p1 G1 AD1 H1 σ (Same.refl _) Ext.refl x r1
theorem ds_retN : DS X Y W (.Return none pos) sRetN := mkS ps_retN fun D σ H G AD Fr env s S p => p G AD H σ (Same.refl _) Ext.refl .non ⟨S.ss, .non⟩
/-- out of its root -/
theorem SimS.move {T : TX} {G : Hp} {AD : AM} {Fr : Hp} {s : Sto} {H : Hp} {l : Nat} {t : Tree} (S : SimS T G AD Fr s H) (h : s[l]? = some (some t)) : SimS T G (adPut AD s.length (AD l)) Fr (s.set l none ++ [some t]) H ∧ Ext All s AD (s.set l none) (adPut AD s.length (AD l)) := by
  have hl : l < s.length := (List.getElem?_eq_some_iff.mp h).1
  have hlen : (s.set l none).length = s.length := List.length_set
  have rn : ∀ l' p o, res (s.set l none) l' p = some o → l' ≠ l ∧ l' < s.length ∧ res s l' p = some o := fun l' p o e => by
    have hl' : l' < s.length := by rw [← hlen]; exact res_lt e
    by_cases c : l' = l
    · subst c
      unfold res at e
      rw [List.getElem?_set_self hl] at e
      cases e
    · unfold res at e ⊢
      rw [List.getElem?_set_ne (Ne.symm c)] at e
      exact ⟨c, hl', e⟩
  have old : ∀ l' p o, res (s.set l none ++ [some t]) l' p = some o → ∃ l0, res s l0 p = some o ∧ adPut AD s.length (AD l) l' = AD l0 ∧ ((l' = s.length ∧ l0 = l) ∨ (l' ≠ s.length ∧ l0 = l' ∧ l' ≠ l)) := fun l' p o e => by
    by_cases c : l' = s.length
    · refine ⟨l, ?_, by rw [c, adPut_same], .inl ⟨c, rfl⟩⟩
      rw [c, ← hlen, res_last] at e
      unfold res; rw [h]; exact e
    · rw [res_append (by rw [hlen]; exact c)] at e
      obtain ⟨h1, h2, h3⟩ := rn l' p o e
      exact ⟨l', h3, by rw [adPut_ne c], .inr ⟨c, rfl, h1⟩⟩
  refine ⟨⟨S.gh, S.fr, S.fg, fun l' p o e => ?_, fun l' p o e => ?_, fun l' p o e => ?_, fun l1 p1 o1 l2 p2 o2 h1 h2 e => ?_, fun l' t' e => ?_⟩, ⟨by rw [hlen]; exact Nat.le_refl _, fun l' p o _ e => ?_⟩⟩
  · obtain ⟨l0, k1, k2, _⟩ := old l' p o e
    rw [k2]; exact S.nd l0 p o k1
  · obtain ⟨l0, k1, k2, _⟩ := old l' p o e
    rw [k2]; exact S.ng l0 p o k1
  · obtain ⟨l0, k1, k2, _⟩ := old l' p o e
    rw [k2]; exact S.nf l0 p o k1
  · obtain ⟨l3, k1, k2, k3⟩ := old l1 p1 o1 h1
    obtain ⟨l4, k4, k5, k6⟩ := old l2 p2 o2 h2
    rw [k2, k5] at e
    obtain ⟨q1, q2⟩ := S.inj l3 p1 o1 l4 p2 o2 k1 k4 e
    refine ⟨?_, q2⟩
    rcases k3 with ⟨a1, a2⟩ | ⟨a1, a2, a3⟩ <;> rcases k6 with ⟨b1, b2⟩ | ⟨b1, b2, b3⟩
    · exact a1.trans b1.symm
    · exact absurd (b2.symm.trans (q1.symm.trans a2)) b3
    · exact absurd (a2.symm.trans (q1.trans b2)) a3
    · exact a2.symm.trans (q1.trans b2)
  · by_cases c : l' < s.length
    · rw [List.getElem?_append_left (by rw [hlen]; exact c)] at e
      by_cases c2 : l' = l
      · subst c2
        rw [List.getElem?_set_self hl] at e
        cases e
      · rw [List.getElem?_set_ne (Ne.symm c2)] at e
        exact S.rt l' t' e
    · have c2 : l' = (s.set l none).length := by
        have := (List.getElem?_eq_some_iff.mp e).1
        rw [List.length_append, List.length_singleton, hlen] at this
        omega
      rw [c2, List.getElem?_append_right (Nat.le_refl _), Nat.sub_self] at e
      cases e
      exact S.rt l _ h
  · obtain ⟨h1, h2, h3⟩ := rn l' p o e
    exact ⟨⟨o, h3⟩, by rw [adPut_ne (Nat.ne_of_lt h2)]⟩
theorem moveR {T : TX} {G : Hp} {AD : AM} {Fr : Hp} {s s' : Sto} {H : Hp} {v v' : Val} {x : V} (r : RV T G AD Fr s H v x) (h : moveV v s = .ok v' s') :
    ∃ AD', Ext All s AD s' AD' ∧ RV T G AD' Fr s' H v' x := by
  cases v with
  | d y =>
    have h2 : Res.ok (Val.d y) s = .ok v' s' := h
    cases h2
    exact ⟨AD, Ext.refl, r⟩
  | f t =>
    have h2 : Res.ok (Val.f t) s = .ok v' s' := h
    cases h2
    exact ⟨AD, Ext.refl, r⟩
  | m l p =>
    cases p with
    | cons a b =>
      have h2 : (Res.bad : Res Val) = .ok v' s' := h
      cases h2
    | nil =>
      have h2 : (match s[l]? with | some (some t) => Res.ok (Val.f t) (s.set l none) | _ => .bad) = .ok v' s' := h
      split at h2
      · rename_i t e
        cases h2
        obtain ⟨k1, k2⟩ := r.1.move e
        obtain ⟨o, ho⟩ := r.1.rt l t e
        refine ⟨_, k2, ?_, ?_⟩
        · exact k1
        · rw [List.length_set, adPut_same]
          exact r.2.2 o (by unfold res; rw [e]; exact ho)
      · cases h2
end
end DL
end

set_option Elab.async false
set_option linter.all false
set_option maxRecDepth 100000
set_option maxHeartbeats 4000000
noncomputable section
namespace DL
open PySem PySem.Spec PyProof.Rows L2

section
variable {X : Cx} {Y : FC} {W : WX} {e c : Expr} {m : En → M Val} {t : En → M Bool} {pos : Pos}
/-! ## own roots -/
theorem SimS.own {T : TX} {G : Hp} {AD : AM} {Fr : Hp} {s : Sto} {H : Hp} {l : Nat} {t : Tree} (S : SimS T G AD Fr (s ++ [some t]) H) (hl : l < s.length) : SimS T G (adPut AD l (AD s.length)) Fr (s.set l (some t)) H := by
  have old : ∀ l' p o, res (s.set l (some t)) l' p = some o → ∃ l0, res (s ++ [some t]) l0 p = some o ∧ adPut AD l (AD s.length) l' = AD l0 ∧ ((l' = l ∧ l0 = s.length) ∨ (l' ≠ l ∧ l0 = l' ∧ l' < s.length)) := fun l' p o e => by
    by_cases c : l' = l
    · refine ⟨s.length, ?_, by rw [c, adPut_same], .inl ⟨c, rfl⟩⟩
      rw [res_last]
      subst c
      unfold res at e
      rw [List.getElem?_set_self hl] at e
      exact e
    · have hl' : l' < s.length := by have := res_lt e; rw [List.length_set] at this; exact this
      refine ⟨l', ?_, by rw [adPut_ne c], .inr ⟨c, rfl, hl'⟩⟩
      rw [res_append (Nat.ne_of_lt hl')]
      unfold res at e ⊢
      rw [List.getElem?_set_ne (Ne.symm c)] at e
      exact e
  refine ⟨S.gh, S.fr, S.fg, fun l' p o e => ?_, fun l' p o e => ?_, fun l' p o e => ?_, fun l1 p1 o1 l2 p2 o2 h1 h2 e => ?_, fun l' t' e => ?_⟩
  · obtain ⟨l0, k1, k2, _⟩ := old l' p o e
    rw [k2]; exact S.nd l0 p o k1
  · obtain ⟨l0, k1, k2, _⟩ := old l' p o e
    rw [k2]; exact S.ng l0 p o k1
  · obtain ⟨l0, k1, k2, _⟩ := old l' p o e
    rw [k2]; exact S.nf l0 p o k1
  · obtain ⟨l3, k1, k2, k3⟩ := old l1 p1 o1 h1
    obtain ⟨l4, k4, k5, k6⟩ := old l2 p2 o2 h2
    rw [k2, k5] at e
    obtain ⟨q1, q2⟩ := S.inj l3 p1 o1 l4 p2 o2 k1 k4 e
    refine ⟨?_, q2⟩
    rcases k3 with ⟨a1, a2⟩ | ⟨a1, a2, a3⟩ <;> rcases k6 with ⟨b1, b2⟩ | ⟨b1, b2, b3⟩ <;> omega
  · by_cases c : l' = l
    · subst c
      rw [List.getElem?_set_self hl] at e
      cases e
      exact S.rt s.length t (by rw [List.getElem?_append_right (Nat.le_refl _), Nat.sub_self]; rfl)
    · rw [List.getElem?_set_ne (Ne.symm c)] at e
      exact S.rt l' t' (by rw [List.getElem?_append_left (List.getElem?_eq_some_iff.mp e).1]; exact e)
def owOk (ow : List (Nat × Nat)) (nk i k : Nat) : Bool := decide ((i, k) ∈ ow) && decide (k < nk) && ow.all fun q => decide (q.2 = k → q.1 = i)
theorem SimE.own1 {T : TX} {Y : FC} {G1 : Hp} {AD1 : AM} {Fr : Hp} {env : En} {s1 : Sto} {σ : L2.St} {H1 : Hp} {x : V} {t : Tree} {i k : Nat} (ho : owOk Y.ow Y.nk i k = true) (S1 : SimE T Y G1 AD1 Fr env s1 σ H1) (r1 : RV T G1 AD1 Fr s1 H1 (.f t) x) :
    SimE T Y G1 (adPut AD1 (Y.b + k) (AD1 s1.length)) Fr (env.set i (some (.m (Y.b + k) []))) (s1.set (Y.b + k) (some t)) (σ.set i (some x)) H1 ∧ Ext (Bl Y) s1 AD1 (s1.set (Y.b + k) (some t)) (adPut AD1 (Y.b + k) (AD1 s1.length)) := by
  unfold owOk at ho
  simp only [Bool.and_eq_true, decide_eq_true_eq, List.all_eq_true] at ho
  obtain ⟨⟨o1, o2⟩, o3⟩ := ho
  have hb : Y.b + k < s1.length := by have := S1.bl; omega
  obtain ⟨r2, r3⟩ := r1
  have S2 := r2.own hb
  have ne : ∀ l, l < Y.b → l ≠ Y.b + k := fun l hl => by omega
  refine ⟨⟨S2, ⟨by rw [List.length_set, List.length_set]; exact S1.en.len, fun j v hv => ?_, fun j l p hv => ?_, S1.en.g0, fun p hp hv => ?_⟩, by rw [List.length_set]; exact S1.bl⟩, ⟨by rw [List.length_set]; exact Nat.le_refl _, fun l p o hl e => ?_⟩⟩
  · by_cases hj : i = j
    · subst hj
      have hl : i < env.length := by
        have := (List.getElem?_eq_some_iff.mp hv).1
        rw [List.length_set] at this; exact this
      rw [List.getElem?_set_self hl] at hv
      cases hv
      refine ⟨x, by rw [List.getElem?_set_self (by rw [← S1.en.len]; exact hl)], by rw [List.length_set]; exact hb, fun o ho => ?_⟩
      rw [r3, adPut_same]
    · rw [List.getElem?_set_ne hj] at hv ⊢
      obtain ⟨y, k1, k2⟩ := S1.en.val j v hv
      refine ⟨y, k1, ?_⟩
      cases v with
      | d z => exact k2
      | f z => exact k2
      | m l p =>
        have hne : l ≠ Y.b + k := by
          rcases S1.en.own j l p hv with q | ⟨k', q1, q2, q3, _⟩
          · exact ne l q
          · intro z
            have : k' = k := by omega
            exact hj (o3 _ q1 this).symm
        refine ⟨by rw [List.length_set]; exact k2.1, fun o ho => ?_⟩
        rw [adPut_ne hne]
        refine k2.2 o ?_
        unfold res at ho ⊢
        rw [List.getElem?_set_ne (Ne.symm hne)] at ho
        exact ho
  · by_cases hj : i = j
    · subst hj
      have hl : i < env.length := by
        have := (List.getElem?_eq_some_iff.mp hv).1
        rw [List.length_set] at this; exact this
      rw [List.getElem?_set_self hl] at hv
      cases hv
      exact .inr ⟨k, o1, o2, rfl, rfl⟩
    · rw [List.getElem?_set_ne hj] at hv
      exact S1.en.own j l p hv
  · by_cases hj : i = p.1
    · subst hj
      have hl : p.1 < env.length := by
        have := (List.getElem?_eq_some_iff.mp hv).1
        rw [List.length_set] at this; exact this
      rw [List.getElem?_set_self hl] at hv
      cases hv
    · rw [List.getElem?_set_ne hj] at hv ⊢
      exact S1.en.px p hp hv
  · refine ⟨⟨o, ?_⟩, adPut_ne (ne l hl) ▸ rfl⟩
    unfold res at e ⊢
    rw [List.getElem?_set_ne (Ne.symm (ne l hl))] at e
    exact e
theorem ds_own {i k : Nat} {x : Str} {pos' : Pos} (h : DE X Y W e m) (ho : owOk Y.ow Y.nk i k = true) (hN : X.N.Nodup) (hi : X.N[i]? = some x) (hx : Loc X.env.scope x) (hs : swapsWith e (some (.Name x pos')) pos.line X.env = pure false)
    (hf : X.fn x = true ∨ X.env.scope.names.lookup x = some .local) : DS X Y W (.Assign [.Name x pos'] e pos) (sOwn Y.b i k m) := mkS (ps_set hN hi hx h.pe hs hf) fun D σ H G AD Fr env s S p => by
  refine stepSE S p fun v s1 G1 AD1 H1 x h1 g1 e1 S1 r1 p1 => ?_
  cases v with
  | d y => exact PostS.nx p1 (Same.refl _) Ext.refl ⟨S1.ss, S1.en.set r1.2, S1.bl⟩
  | m l z => exact p1.elim
  | f t =>
    have hb : Y.b + k < s1.length := by
      unfold owOk at ho
      simp only [Bool.and_eq_true, decide_eq_true_eq] at ho
      have := S1.bl; omega
    have p2 : PostS (tx X) Y W Fr G1 AD1 s1 (if Y.b + k < s1.length then .ok .nx (env.set i (some (.m (Y.b + k) []))) (s1.set (Y.b + k) (some t)) else .bad) D := p1
    rw [if_pos hb] at p2
    obtain ⟨S2, e2⟩ := S1.own1 ho r1
    exact PostS.nx p2 (Same.refl _) e2 S2
theorem de_move (h : DE X Y W e m) : DE X Y W e (eMove m) := mkE h.pe fun σ H Q G AD Fr env s S p => by
  refine stepE (k := moveV) S p fun v s1 G1 AD1 H1 x h1 g1 e1 S1 r1 p1 => ?_
  cases hm : moveV v s1 with
  | bad => rw [hm] at p1; exact p1.elim
  | exc d s' =>
    exfalso
    unfold moveV at hm
    split at hm
    · split at hm <;> cases hm
    · cases hm
    · cases hm
  | ok v' s' =>
    rw [hm] at p1
    obtain ⟨AD', k1, k2⟩ := moveR r1 hm
    exact p1.done (Same.refl _) k1 k2

/-! ## targets -/
def gVar (i : Nat) : D → En → Option En := fun d env => some (env.set i (some (.d d)))
def gList : List (D → En → Option En) → List D → En → Option En
  | [], [], env => some env
  | g :: gs, d :: ds, env => (g d env).bind fun env' => gList gs ds env'
  | _, _, _ => none
def gTupD (gs : List (D → En → Option En)) : D → En → Option En := fun d env => match d with
  | .tup xs => gList gs xs env
  | _ => none
theorem wipe_set_in {x : Option V} {i : Nat} : ∀ {vs : List Nat} {σ : L2.St}, i ∈ vs → wipe (σ.set i x) vs = wipe σ vs
  | [], _, h => by cases h
  | v :: vs, σ, h => by
    have key : ∀ (τ : L2.St) (x : Option V) (i : Nat) (vs : List Nat), (wipe (τ.set i x) vs).set i none = (wipe τ vs).set i none := fun τ x i vs => by
      induction vs with
      | nil => unfold wipe; rw [List.set_set]
      | cons w ws ih =>
        unfold wipe
        by_cases hw : w = i
        · subst hw; rw [List.set_set, List.set_set]; exact ih
        · rw [List.set_comm _ _ hw, ih, List.set_comm _ _ (Ne.symm hw)]
    unfold wipe
    by_cases hv : i = v
    · subst hv; exact key σ x i vs
    · rcases List.mem_cons.mp h with h | h
      · exact absurd h hv
      · rw [wipe_set_in h]
def tGm (X : Cx) (Y : FC) (vs : List Nat) (g : D → En → Option En) : TG := fun v σ H Q => ∃ G AD Fr env s d env', SimE (tx X) Y G AD Fr env s σ H ∧ Rep (tx X) G v d ∧ g d env = some env' ∧ ∀ σ', SimE (tx X) Y G AD Fr env' s σ' H → wipe σ' vs = wipe σ vs → Q σ' H
structure DG (X : Cx) (Y : FC) (vs : List Nat) (tg : Expr) (g : D → En → Option En) : Prop where
  pg : PG X tg (tGm X Y vs g)
def tGs (X : Cx) (Y : FC) (ws : List Nat) (gs : List (D → En → Option En)) : TGs := fun vs σ H Q => ∃ G AD Fr env s ds env', SimE (tx X) Y G AD Fr env s σ H ∧ RepL (tx X) G vs ds ∧ gList gs ds env = some env' ∧ ∀ σ', SimE (tx X) Y G AD Fr env' s σ' H → wipe σ' ws = wipe σ ws → Q σ' H
structure DGs (X : Cx) (Y : FC) (ws : List Nat) (tgs : List Expr) (gs : List (D → En → Option En)) : Prop where
  pg : PGs X tgs (tGs X Y ws gs)
theorem pgImp {tg : Expr} {t t' : TG} (h : PG X tg t) (i : ∀ v σ H Q, t' v σ H Q → t v σ H Q) : PG X tg t' := ⟨fun pins s σ H v u Q I r q => h.run pins s σ H v u Q I r (i v σ H Q q)⟩
theorem pgsImp {tg : List Expr} {t t' : TGs} (h : PGs X tg t) (i : ∀ v σ H Q, t' v σ H Q → t v σ H Q) : PGs X tg t' := ⟨fun pins s σ H v u Q I r q => h.run pins s σ H v u Q I r (i v σ H Q q)⟩
theorem dg_var {i : Nat} {x : Str} {vs : List Nat} (hN : X.N.Nodup) (hi : X.N[i]? = some x) (hx : Loc X.env.scope x) (hf : X.fn x = true ∨ X.env.scope.names.lookup x = some .local) (hw : i ∈ vs) : DG X Y vs (.Name x pos) (gVar i) :=
  ⟨pgImp (pg_name hN hi hx hf) fun v σ H Q ⟨G, AD, Fr, env, s, d, env', S, r, g, q⟩ => by
    cases g
    exact q _ ⟨S.ss, S.en.set r, S.bl⟩ (wipe_set_in hw)⟩
theorem dgs_nil {ws : List Nat} : DGs X Y ws [] [] := ⟨pgsImp pgs_nil fun v σ H Q ⟨G, AD, Fr, env, s, ds, env', S, r, g, q⟩ => by
  cases ds with
  | nil => cases r; cases g; exact ⟨rfl, q _ S rfl⟩
  | cons _ _ => cases g⟩
theorem dgs_cons {ws : List Nat} {es : List Expr} {g : D → En → Option En} {gs : List (D → En → Option En)} (h1 : DG X Y ws e g) (h2 : DGs X Y ws es gs) (hs : (assignEach (e :: es) X.env).map (·.2) = assign e X.env :: (assignEach es X.env).map (·.2)) : DGs X Y ws (e :: es) (g :: gs) :=
  ⟨pgsImp (pgs_cons h1.pg h2.pg hs) fun v σ H Q ⟨G, AD, Fr, env, s, ds, env', S, r, hg, q⟩ => by
    cases ds with
    | nil => cases hg
    | cons d ds =>
      cases r with
      | cons r1 r2 =>
      obtain ⟨env1, k1, k2⟩ := Option.bind_eq_some_iff.mp (show (g d env).bind (fun env' => gList gs ds env') = some env' from hg)
      exact ⟨_, _, rfl, G, AD, Fr, env, s, d, env1, S, r1, k1, fun σ' S' w' => ⟨G, AD, Fr, env1, s, ds, env', S', r2, k2, fun σ2 S2 w2 => q σ2 S2 (w2.trans w')⟩⟩⟩
theorem gList_len : ∀ {gs : List (D → En → Option En)} {ds : List D} {env env' : En}, gList gs ds env = some env' → ds.length = gs.length
  | [], [], _, _, _ => rfl
  | g :: gs, d :: ds, env, env', h => by
    obtain ⟨env1, k1, k2⟩ := Option.bind_eq_some_iff.mp (show (g d env).bind (fun env' => gList gs ds env') = some env' from h)
    exact congrArg Nat.succ (gList_len k2)
  | [], _ :: _, _, _, h => by cases h
  | _ :: _, [], _, _, h => by cases h
theorem dg_tup {ws : List Nat} {es : List Expr} {k : Nat} {gs : List (D → En → Option En)} (hc : X.calm = true) (h : DGs X Y ws es gs) (hn : (assignEach es X.env).length = gs.length) (hst : (assignEach es X.env).findIdx? (·.1) = none) : DG X Y ws (.Tuple es k pos) (gTupD gs) :=
  ⟨pgImp (pg_tup hc h.pg hn hst) fun v σ H Q ⟨G, AD, Fr, env, s, d, env', S, r, g, q⟩ => by
    unfold gTupD at g
    split at g
    · cases r with
      | tup h1 h2 => exact ⟨_, _, rfl, sameT S.ss.gh h1, h2.len.trans (gList_len g), G, AD, Fr, env, s, _, env', S, h2, g, q⟩
    · cases g⟩
/-- target = e -/
def sAsg (g : D → En → Option En) (m : En → M Val) : SM := fun env s => (stl m env s).sb env fun v s1 => v.cD (fun x => match g x env with | some env' => .ok .nx env' s1 | none => .bad) .bad
theorem ds_asg {ws : List Nat} {tg : Expr} {g : D → En → Option En} (h : DE X Y W e m) (hg : DG X Y ws tg g) (hs : swapsWithSole [tg] e pos.line X.env = pure false) (hw : swappedStores [tg] e X.env = pure none) (h1 : (assignEach [tg] X.env).map (·.2) = [assign tg X.env]) :
    DS X Y W (.Assign [tg] e pos) (sAsg g m) := mkS (ps_asg h.stl.pe hg.pg hs hw h1) fun D σ H G AD Fr env s S p => by
  refine stepSE S p fun v s1 G1 AD1 H1 x h1 g1 e1 S1 r1 p1 => ?_
  refine d_case (k := fun y s => match g y env with | some env' => .ok .nx env' s | none => .bad) r1 p1 fun y hy ry p2 => ?_
  cases hg' : g y env with
  | none => rw [hg'] at p2; exact p2.elim
  | some env' =>
    rw [hg'] at p2
    exact ⟨G1, AD1, Fr, env, s1, y, env', S1, ry, hg', fun σ' S' _ => PostS.nx p2 (Same.refl _) Ext.refl S'⟩

/-! ## what is walked -/
def WalkD (T : TX) (G : Hp) (J : It) (xs : List D) : Prop := ∃ Yd, Walk J xs.length (fun H => Same G H) Yd ∧ ∀ (i : Nat) H v H' d, Same G H → xs[i]? = some d → Yd i H v H' →
  (H' = H ∧ Rep T G v d) ∨ ∃ p u, v = .ref p ∧ H p = none ∧ H' = upd H p u ∧ ∀ G1, Same G G1 → G1 p = some u → Rep T G1 (.ref p) d
def CI (T : TX) (Fr : Hp) (R : It → Hp → Prop) : List D → Hp → AM → Sto → Hp → Prop := fun xs G' AD' s' H' => SimS T G' AD' Fr s' H' → ∀ J, WalkD T G' J xs → R J H'
def tI (X : Cx) (Y : FC) (W : WX) (m : En → M (List D)) : TI := fun σ H R => ∃ G AD Fr env s, SimE (tx X) Y G AD Fr env s σ H ∧ PostR All (tx X) W Fr σ G AD s (m env s) (CI (tx X) Fr R)
structure DI (X : Cx) (Y : FC) (W : WX) (tg iter : Expr) (m : En → M (List D)) : Prop where
  pi : PI X tg iter (tI X Y W m)
theorem stepI {Y : FC} {W : WX} {ma : En → M (List D)} {β : Type} {q : Nat → Prop} {k : List D → M β} {G : Hp} {AD : AM} {Fr : Hp} {env : En} {s : Sto} {σ : L2.St} {H : Hp} {R : It → Hp → Prop} {C : β → Hp → AM → Sto → Hp → Prop}
    (S : SimE (tx X) Y G AD Fr env s σ H) (p : PostR q (tx X) W Fr σ G AD s ((ma env s).bnd k) C)
    (h : ∀ xs s1 G1 AD1 H1 J, ma env s = .ok xs s1 → Same G G1 → Ext All s AD s1 AD1 → SimE (tx X) Y G1 AD1 Fr env s1 σ H1 → WalkD (tx X) G1 J xs → PostR q (tx X) W Fr σ G1 AD1 s1 (k xs s1) C → R J H1) : tI X Y W ma σ H R := by
  refine ⟨G, AD, Fr, env, s, S, ?_⟩
  cases e : ma env s with
  | bad => rw [e] at p; exact p
  | exc d s' =>
    rw [e] at p
    exact fun G' AD' H' cls dx g x => p G' AD' H' cls dx g (x.mono fun _ _ => trivial)
  | ok v s' =>
    rw [e] at p
    have p' : PostR q (tx X) W Fr σ G AD s (k v s') C := p
    exact fun G' AD' H' g x r J w => h v s' G' AD' H' J e g x ⟨r, S.en.mono g x, Nat.le_trans S.bl x.len⟩ w (p'.mono g (x.mono fun _ _ => trivial))
theorem stepSI {Y : FC} {W : WX} {ma : En → M (List D)} {k : List D → Sto → SR} {G : Hp} {AD : AM} {Fr : Hp} {env : En} {s : Sto} {σ : L2.St} {H : Hp} {R : It → Hp → Prop} {D : Ends}
    (S : SimE (tx X) Y G AD Fr env s σ H) (p : PostS (tx X) Y W Fr G AD s ((ma env s).sb env k) D)
    (h : ∀ xs s1 G1 AD1 H1 J, ma env s = .ok xs s1 → Same G G1 → Ext All s AD s1 AD1 → SimE (tx X) Y G1 AD1 Fr env s1 σ H1 → WalkD (tx X) G1 J xs → PostS (tx X) Y W Fr G1 AD1 s1 (k xs s1) D → R J H1) : tI X Y W ma σ H R := by
  refine ⟨G, AD, Fr, env, s, S, ?_⟩
  cases e : ma env s with
  | bad => rw [e] at p; exact p
  | exc d s' =>
    rw [e] at p
    exact fun G' AD' H' cls dx g x r er => p G' AD' H' σ cls dx g (x.mono fun _ _ => trivial) ⟨r, S.en.mono g x, Nat.le_trans S.bl x.len⟩ er
  | ok v s' =>
    rw [e] at p
    have p' : PostS (tx X) Y W Fr G AD s (k v s') D := p
    exact fun G' AD' H' g x r J w => h v s' G' AD' H' J e g x ⟨r, S.en.mono g x, Nat.le_trans S.bl x.len⟩ w (p'.mono g (x.mono fun _ _ => trivial))
theorem walkD_list {T : TX} {G : Hp} {a : Addr} {vs : List V} {xs : List D} (h : SqL T.K G a vs) (r : RepL T G vs xs) : WalkD T G (Itl T.K a) xs := by
  refine ⟨YAt vs, ?_, fun i H v H' d g hx y => ?_⟩
  · rw [← r.len]
    exact (walk_list (K := T.K) (a := a) (xs := vs)).mono (fun H g => Same.seq g h) fun i H x H' _ _ y => y
  · obtain ⟨z, k1, k2⟩ := r.get hx
    obtain ⟨y1, y2⟩ := y
    rw [k1] at y2
    cases y2
    exact .inl ⟨y1, k2⟩
theorem walkD_tup {T : TX} {G : Hp} {a : Addr} {vs : List V} {xs : List D} (h : SqT T.K G a vs) (r : RepL T G vs xs) : WalkD T G (Itt T.K a) xs := by
  refine ⟨YAt vs, ?_, fun i H v H' d g hx y => ?_⟩
  · rw [← r.len]
    exact (walk_tup (K := T.K) (a := a) (xs := vs)).mono (fun H g => sameT g h) fun i H x H' _ _ y => y
  · obtain ⟨z, k1, k2⟩ := r.get hx
    obtain ⟨y1, y2⟩ := y
    rw [k1] at y2
    cases y2
    exact .inl ⟨y1, k2⟩
def chD (z : Str) : List D := z.cps.toList.map fun c => .str ⟨#[c]⟩
theorem walkD_str {T : TX} {G : Hp} {z : Str} : WalkD T G (Its z) (chD z) := by
  refine ⟨fun i H v H' => H' = H ∧ ∃ c, z.cps[i]? = some c ∧ v = .str ⟨#[c]⟩, ?_, fun i H v H' d g hx y => ?_⟩
  · have e : (chD z).length = z.cps.size := by simp [chD]
    rw [e]
    exact (walk_str (z := z)).mono (fun H g => trivial) fun i H x H' _ _ y => y
  · obtain ⟨y1, c, y2, y3⟩ := y
    refine .inl ⟨y1, ?_⟩
    have e : (chD z)[i]? = some (.str ⟨#[c]⟩) := by
      unfold chD
      rw [List.getElem?_map, Array.getElem?_toList, y2]; rfl
    rw [e] at hx
    cases hx
    rw [y3]
    exact .str _
/-- a list, a tuple, a text -/
def itSeq (m : En → M Val) : En → M (List D) := fun env => bnd (stl m env) fun v s => v.cD (fun x => match x with
  | .tup xs => .ok xs s
  | .lst xs => .ok xs s
  | .scr xs => .ok xs s
  | .str z => .ok (chD z) s
  | _ => .bad) .bad
theorem di_seq {tg : Expr} (h : DE X Y W e m) : DI X Y W tg e (itSeq m) := by
  refine ⟨⟨fun pins s σ H R I ⟨G, AD, Fr, env, st, S, p⟩ => ?_⟩⟩
  have base := h.stl.pe.run pins s σ H (fun x H1 => ∃ G1 AD1 s1 d xs, SimE (tx X) Y G1 AD1 Fr env s1 σ H1 ∧ Rep (tx X) G1 x d ∧ ((d = .tup xs) ∨ (d = .lst xs) ∨ (d = .scr xs) ∨ ∃ z, d = .str z ∧ xs = chD z) ∧ ∀ J, WalkD (tx X) G1 J xs → R J H1) I (by
    refine stepE S p fun v s1 G1 AD1 H1 x h1 g1 e1 S1 r1 p1 => ?_
    cases v with
    | m l z => exact p1.elim
    | f z => exact p1.elim
    | d y =>
      cases y with
      | tup xs => exact ⟨G1, AD1, s1, _, xs, S1, r1.2, .inl rfl, fun J w => p1 G1 AD1 H1 (Same.refl _) Ext.refl S1.ss J w⟩
      | lst xs => exact ⟨G1, AD1, s1, _, xs, S1, r1.2, .inr (.inl rfl), fun J w => p1 G1 AD1 H1 (Same.refl _) Ext.refl S1.ss J w⟩
      | scr xs => exact ⟨G1, AD1, s1, _, xs, S1, r1.2, .inr (.inr (.inl rfl)), fun J w => p1 G1 AD1 H1 (Same.refl _) Ext.refl S1.ss J w⟩
      | str z => exact ⟨G1, AD1, s1, _, _, S1, r1.2, .inr (.inr (.inr ⟨z, rfl, rfl⟩)), fun J w => p1 G1 AD1 H1 (Same.refl _) Ext.refl S1.ss J w⟩
      | _ => exact p1.elim)
  refine thn base fun v s1 ⟨x, H1, I1, r1, G1, AD1, st1, d, xs, S1, rx, cases_, k⟩ => ?_
  have seqL : ∀ {a : Addr} {vs : List V}, x = .ref a → SqL (tx X).K G1 a vs → RepL (tx X) G1 vs xs → wpAny (model X.prog X.w) X.A (pyIter v) (PIE X pins σ tg R) X.xe s1 := fun {a vs} ex hq rq => by
    subst ex
    cases r1
    obtain ⟨its, rv, p, hz⟩ := I1.list (Same.seq S1.ss.gh hq)
    refine wpAny_pyIter_list p.isList ?_
    refine ⟨s1.heap.objs.size, [s1.heap.objs.size], _, _, H1, rfl, I1.kept (t' := s1.toks) fun b o e => Heap.get?_push_of_some _ e, turn_list a _, ⟨_, Heap.get?_push_size _ rfl, rfl, rfl⟩, fun b hb => ?_, k _ (walkD_list hq rq)⟩
    have e : b = s1.heap.objs.size := by simpa using hb
    subst e
    exact I1.fpOk (Nat.le_refl _) (I1.hok.fresh (Nat.le_refl _))
  rcases cases_ with rfl | rfl | rfl | ⟨z, rfl, rfl⟩
  · cases rx with
    | @tup a vs _ hq rq =>
    cases r1
    obtain ⟨its, rv, p, hz⟩ := I1.tuple (sameT S1.ss.gh hq)
    refine wpAny_pyIter_tuple (show s1.heap.IsTuple a its.toArray from p) ?_
    refine ⟨s1.heap.objs.size, [s1.heap.objs.size], _, _, H1, rfl, I1.kept (t' := s1.toks) fun b o e => Heap.get?_push_of_some _ e, turn_tuple a _, ⟨_, Heap.get?_push_size _ rfl, rfl, rfl⟩, fun b hb => ?_, k _ (walkD_tup hq rq)⟩
    have e : b = s1.heap.objs.size := by simpa using hb
    subst e
    exact I1.fpOk (Nat.le_refl _) (I1.hok.fresh (Nat.le_refl _))
  · cases rx with
    | lst hq rq => exact seqL rfl (SqL.of hq) rq
  · cases rx with
    | scr hq rq => exact seqL rfl hq rq
  · cases rx
    obtain ⟨t, rfl⟩ := r1
    cases ha : z.cps.all (· < 128)
    · exact wpAny_pyIter_wide ha (pi_one (tk := s1.toks) I1 _ (turn_str _ z t "str_iterator" (.inr rfl)) ⟨_, Heap.get?_push_size _ rfl, rfl, rfl⟩ (k _ walkD_str))
    · exact wpAny_pyIter_ascii ha (pi_one (tk := s1.toks) I1 _ (turn_str _ z t "str_ascii_iterator" (.inl rfl)) ⟨_, Heap.get?_push_size _ rfl, rfl, rfl⟩ (k _ walkD_str))

/-! ## for, while -/
def forL (g : D → En → Option En) (body : SM) : List D → SM
  | [] => fun env s => .ok .nx env s
  | x :: xs => fun env s => match g x env with
    | none => .bad
    | some env1 => match body env1 s with
      | .ok .nx env2 s2 => forL g body xs env2 s2
      | .ok .ct env2 s2 => forL g body xs env2 s2
      | .ok .bk env2 s2 => .ok .nx env2 s2
      | r => r
def sFor (mi : En → M (List D)) (g : D → En → Option En) (body : SM) : SM := fun env s => (mi env s).sb env fun xs s1 => forL g body xs env s1
theorem item_new {T : TX} {Y : FC} {G : Hp} {AD : AM} {Fr : Hp} {env : En} {s : Sto} {σ : L2.St} {H H' : Hp} {v : V} {d : D} (S : SimE T Y G AD Fr env s σ H)
    (h : (H' = H ∧ Rep T G v d) ∨ ∃ p u, v = .ref p ∧ H p = none ∧ H' = upd H p u ∧ ∀ G1, Same G G1 → G1 p = some u → Rep T G1 (.ref p) d) :
    ∃ G', Same G G' ∧ SimE T Y G' AD Fr env s σ H' ∧ Rep T G' v d := by
  rcases h with ⟨rfl, r⟩ | ⟨p, u, rfl, hp, rfl, hr⟩
  · exact ⟨G, Same.refl _, S, r⟩
  · obtain ⟨G', k1, k2⟩ := RV.newI S.ss hp hr
    exact ⟨G', k1, ⟨k2.1, S.en.mono k1 Ext.refl, S.bl⟩, k2.2⟩
theorem WalkD.mono {T : TX} {G G' : Hp} {J : It} {xs : List D} (w : WalkD T G J xs) (g : Same G G') : WalkD T G' J xs := by
  obtain ⟨Yd, w1, w2⟩ := w
  refine ⟨Yd, w1.mono (fun H h => g.trans h) (fun i H x H' _ _ y => y), fun i H v H' d h hx y => ?_⟩
  rcases w2 i H v H' d (g.trans h) hx y with ⟨e, r⟩ | ⟨p, u, e1, e2, e3, e4⟩
  · exact .inl ⟨e, r.mono g⟩
  · exact .inr ⟨p, u, e1, e2, e3, fun G1 g1 h1 => e4 G1 (g.trans g1) h1⟩
theorem ds_for {ws : List Nat} {tg iter : Expr} {body : List Stmt} {mi : En → M (List D)} {g : D → En → Option En} {mb : SM} (hp : PassesOwn (model X.prog X.w) X.A X.env X.xe) (hc : X.calm = true) (hi : DI X Y W tg iter mi) (hg : DG X Y ws tg g) (hb : DB X Y W body mb)
    (hs : ∀ x, foldedSetIterable iter X.env x = pure x) : DS X Y W (.For tg iter body [] pos) (sFor mi g mb) := mkS (ps_for hp hc hi.pi hg.pg hb.ps hs) fun D σ H G AD Fr env s S p => by
  refine stepSI S p fun xs s1 G1 AD1 H1 J h1 g1 e1 S1 w p1 => ?_
  obtain ⟨Yd, w1, w2⟩ := w
  refine for_it w1 (fun i σ H => ∃ G2 AD2 env2 s2, Same G1 G2 ∧ SimE (tx X) Y G2 AD2 Fr env2 s2 σ H ∧ PostS (tx X) Y W Fr G2 AD2 s2 (forL g mb (xs.drop i) env2 s2) D) ⟨G1, AD1, env, s1, Same.refl _, S1, p1⟩ ?_ ?_ ?_
  · rintro i σ H _ ⟨G2, AD2, env2, s2, g2, S2, _⟩
    exact g2.trans S2.ss.gh
  · rintro i x σ H H' hi ⟨G2, AD2, env2, s2, g2, S2, p2⟩ y
    obtain ⟨d, hd⟩ : ∃ d, xs[i]? = some d := ⟨xs[i], List.getElem?_eq_getElem hi⟩
    have hdrop : xs.drop i = d :: xs.drop (i + 1) := by
      obtain ⟨h1, h2⟩ := List.getElem?_eq_some_iff.mp hd
      rw [← h2]; exact List.drop_eq_getElem_cons h1
    rw [hdrop] at p2
    have c0 := w2 i H x H' d (g2.trans S2.ss.gh) hd y
    have c1 : (H' = H ∧ Rep (tx X) G2 x d) ∨ ∃ p u, x = .ref p ∧ H p = none ∧ H' = upd H p u ∧ ∀ G', Same G2 G' → G' p = some u → Rep (tx X) G' (.ref p) d := by
      rcases c0 with ⟨e, r⟩ | ⟨p, u, e1, e2, e3, e4⟩
      · exact .inl ⟨e, r.mono g2⟩
      · exact .inr ⟨p, u, e1, e2, e3, fun G' g' h' => e4 G' (g2.trans g') h'⟩
    obtain ⟨G3, g3, S3, r3⟩ := item_new S2 c1
    have p3 : PostS (tx X) Y W Fr G3 AD2 s2 (match g d env2 with
      | none => SR.bad
      | some env1 => match mb env1 s2 with
        | .ok .nx env2 s2 => forL g mb (xs.drop (i + 1)) env2 s2
        | .ok .ct env2 s2 => forL g mb (xs.drop (i + 1)) env2 s2
        | .ok .bk env2 s2 => .ok .nx env2 s2
        | r => r) D := PostS.mono p2 g3 Ext.refl
    cases hgd : g d env2 with
    | none => rw [hgd] at p3; exact p3.elim
    | some env1 =>
      rw [hgd] at p3
      refine ⟨G3, AD2, Fr, env2, s2, d, env1, S3, r3, hgd, fun σ' S4 _ => ⟨G3, AD2, Fr, env1, s2, S4, ?_⟩⟩
      have p4 : PostS (tx X) Y W Fr G3 AD2 s2 (match mb env1 s2 with
        | .ok .nx env2 s2 => forL g mb (xs.drop (i + 1)) env2 s2
        | .ok .ct env2 s2 => forL g mb (xs.drop (i + 1)) env2 s2
        | .ok .bk env2 s2 => .ok .nx env2 s2
        | r => r) D := p3
      cases hr : mb env1 s2 with
      | bad => rw [hr] at p4; exact p4
      | exc d' e' s' => rw [hr] at p4; exact p4
      | ok f env3 s3 =>
        rw [hr] at p4
        cases f with
        | nx => exact fun G' AD' H' σ' g' e' S' => ⟨G', AD', env3, s3, (g2.trans g3).trans g', S', PostS.mono p4 g' e'⟩
        | ct => exact fun G' AD' H' σ' g' e' S' => ⟨G', AD', env3, s3, (g2.trans g3).trans g', S', PostS.mono p4 g' e'⟩
        | bk => exact p4
        | rt v => exact p4
  · rintro σ H ⟨G2, AD2, env2, s2, g2, S2, p2⟩
    rw [List.drop_length] at p2
    exact PostS.nx p2 (Same.refl _) Ext.refl S2
def sWhile (t : En → M Bool) (body : SM) : Nat → SM
  | 0 => fun _ _ => .bad
  | n + 1 => fun env s => (t env s).sb env fun c s1 => if c = true then (match body env s1 with
    | .ok .nx env2 s2 => sWhile t body n env2 s2
    | .ok .ct env2 s2 => sWhile t body n env2 s2
    | .ok .bk env2 s2 => .ok .nx env2 s2
    | r => r) else .ok .nx env s1
theorem ds_while {body : List Stmt} {mb : SM} (n : Nat) (hp : PassesOwn (model X.prog X.w) X.A X.env X.xe) (hc : DT X Y W c t) (hb : DB X Y W body mb) : DS X Y W (.While c body [] pos) (sWhile t mb n) := mkS (ps_while hp hc.pt hb.ps) fun D σ H G AD Fr env s S p => by
  refine ⟨fun m σ H => ∃ G2 AD2 env2 s2, SimE (tx X) Y G2 AD2 Fr env2 s2 σ H ∧ PostS (tx X) Y W Fr G2 AD2 s2 (sWhile t mb m env2 s2) D, ⟨n, G, AD, env, s, S, p⟩, ?_⟩
  rintro m σ H ⟨G2, AD2, env2, s2, S2, p2⟩
  cases m with
  | zero => exact p2.elim
  | succ m =>
    refine stepST S2 p2 fun v s3 G3 AD3 H3 h3 g3 e3 S3 p3 => ?_
    cases v with
    | false =>
      refine iteF ?_
      exact PostS.nx p3 (Same.refl _) Ext.refl S3
    | true =>
      refine iteT ⟨fun σ' H' => ∃ G2 AD2 env2 s2, SimE (tx X) Y G2 AD2 Fr env2 s2 σ' H' ∧ PostS (tx X) Y W Fr G2 AD2 s2 (sWhile t mb m env2 s2) D, fun σ' H' h => ⟨m, Nat.lt_succ_self _, h⟩, G3, AD3, Fr, env2, s3, S3, ?_⟩
      have p4 : PostS (tx X) Y W Fr G3 AD3 s3 (match mb env2 s3 with
        | .ok .nx env2 s2 => sWhile t mb m env2 s2
        | .ok .ct env2 s2 => sWhile t mb m env2 s2
        | .ok .bk env2 s2 => .ok .nx env2 s2
        | r => r) D := p3
      cases hr : mb env2 s3 with
      | bad => rw [hr] at p4; exact p4
      | exc d' e' s' => rw [hr] at p4; exact p4
      | ok f env3 s3 =>
        rw [hr] at p4
        cases f with
        | nx => exact fun G' AD' H' σ' g' e' S' => ⟨G', AD', env3, s3, S', PostS.mono p4 g' e'⟩
        | ct => exact fun G' AD' H' σ' g' e' S' => ⟨G', AD', env3, s3, S', PostS.mono p4 g' e'⟩
        | bk => exact p4
        | rt v => exact p4
end
end DL
end

set_option Elab.async false
set_option linter.all false
set_option maxRecDepth 100000
set_option maxHeartbeats 4000000
noncomputable section
namespace DL
open PySem PySem.Spec PyProof.Rows L2

/-! ## defs -/
def PostF (T : TX) (Fr : Hp) (G : Hp) (AD : AM) (s : Sto) (r : Res Val) (Q : VK) (E : XK) : Prop := match r with
  | .bad => False
  | .ok v s' => ∀ G' AD' H' x, Same G G' → Ext (fun l => l < s.length) s AD s' AD' → RV T G' AD' Fr s' H' v x → Q x H'
  | .exc d s' => ∀ G' AD' H' cls dx, Same G G' → Ext (fun l => l < s.length) s AD s' AD' → SimS T G' AD' Fr s' H' → ExR T G' cls dx d → E cls dx H'
def spD (T : TX) (n : Nat) (m : List Val → M Val) : Sp := fun vs H Q E => vs.length = n ∧ ∃ G AD Fr s args, SimS T G AD Fr s H ∧ VRs T G AD s args vs ∧ PostF T Fr G AD s (m args s) Q E
abbrev FnD (P : Program) (w : World) (K : PySem.W.Frag) (mg : Str → Option Value) (base : Heap) (k : Nat) (f : Addr) (fd : FuncData) (ps : List Str) (m : List Val → M Val) : Prop :=
  FnOk P w K mg base (L2.CX P w) k f fd ps (spD ⟨P, w, K, mg⟩ ps.length m)
def Val.fin (v : Val) (s : Sto) : Res Val := match v with
  | .m _ _ => .bad
  | v => .ok v s
def runF (nk n : Nat) (body : Nat → SM) : List Val → M Val := fun args s =>
  match body s.length (args.map some ++ List.replicate (n - args.length) none) (s ++ List.replicate nk none) with
  | .ok .nx _ s' => .ok (.d .non) (s'.take s.length)
  | .ok (.rt v) _ s' => v.fin (s'.take s.length)
  | .exc d _ s' => .exc d (s'.take s.length)
  | _ => .bad
theorem res_take {s : Sto} {n l : Nat} {p : List Str} {o : O} (h : res (s.take n) l p = some o) : res s l p = some o ∧ l < n := by
  have hl := res_lt h
  rw [List.length_take] at hl
  refine ⟨?_, by omega⟩
  unfold res at h ⊢
  rw [List.getElem?_take_of_lt (by omega)] at h
  exact h
theorem SimS.take {T : TX} {G : Hp} {AD : AM} {Fr : Hp} {s : Sto} {H : Hp} (S : SimS T G AD Fr s H) (n : Nat) : SimS T G AD Fr (s.take n) H :=
  ⟨S.gh, S.fr, S.fg, fun l p o h => S.nd l p o (res_take h).1, fun l p o h => S.ng l p o (res_take h).1, fun l p o h => S.nf l p o (res_take h).1, fun l p o l' p' o' h h' => S.inj l p o l' p' o' (res_take h).1 (res_take h').1,
    fun l t h => S.rt l t (by
      have := (List.getElem?_eq_some_iff.mp h).1
      rw [List.length_take] at this
      rw [List.getElem?_take_of_lt (by omega)] at h
      exact h)⟩
theorem SimS.congr {T : TX} {G : Hp} {AD : AM} {Fr : Hp} {s s' : Sto} {H : Hp} (S : SimS T G AD Fr s H) (h : ∀ l p o, res s' l p = some o → res s l p = some o) (hr : ∀ (l : Nat) t, s'[l]? = some (some t) → s[l]? = some (some t)) : SimS T G AD Fr s' H :=
  ⟨S.gh, S.fr, S.fg, fun l p o e => S.nd l p o (h l p o e), fun l p o e => S.ng l p o (h l p o e), fun l p o e => S.nf l p o (h l p o e), fun l p o l' p' o' e e' => S.inj l p o l' p' o' (h l p o e) (h l' p' o' e'), fun l t e => S.rt l t (hr l t e)⟩
/-- a tree at the end, moved down to n -/
theorem SimS.down {T : TX} {G : Hp} {AD : AM} {Fr : Hp} {s : Sto} {H : Hp} {t : Tree} (S : SimS T G AD Fr (s ++ [some t]) H) (n : Nat) (hn : n ≤ s.length) : SimS T G (adPut AD n (AD s.length)) Fr (s.take n ++ [some t]) H := by
  have hlen : (s.take n).length = n := by rw [List.length_take]; omega
  have old : ∀ l p o, res (s.take n ++ [some t]) l p = some o → ∃ l0, res (s ++ [some t]) l0 p = some o ∧ adPut AD n (AD s.length) l = AD l0 ∧ ((l = n ∧ l0 = s.length) ∨ (l < n ∧ l0 = l)) := fun l p o e => by
    by_cases c : l = n
    · refine ⟨s.length, ?_, by rw [c, adPut_same], .inl ⟨c, rfl⟩⟩
      rw [res_last]
      have e2 : res (s.take n ++ [some t]) (s.take n).length p = some o := by rw [hlen]; rw [c] at e; exact e
      rw [res_last] at e2
      exact e2
    · rw [res_append (by rw [hlen]; exact c)] at e
      obtain ⟨h1, h2⟩ := res_take e
      exact ⟨l, by rw [res_append (by omega)]; exact h1, adPut_ne c ▸ rfl, .inr ⟨h2, rfl⟩⟩
  refine ⟨S.gh, S.fr, S.fg, fun l' p o e => ?_, fun l' p o e => ?_, fun l' p o e => ?_, fun l1 p1 o1 l2 p2 o2 h1 h2 e => ?_, fun l' t' e => ?_⟩
  · obtain ⟨l0, k1, k2, _⟩ := old l' p o e
    rw [k2]; exact S.nd l0 p o k1
  · obtain ⟨l0, k1, k2, _⟩ := old l' p o e
    rw [k2]; exact S.ng l0 p o k1
  · obtain ⟨l0, k1, k2, _⟩ := old l' p o e
    rw [k2]; exact S.nf l0 p o k1
  · obtain ⟨l3, k1, k2, k3⟩ := old l1 p1 o1 h1
    obtain ⟨l4, k4, k5, k6⟩ := old l2 p2 o2 h2
    rw [k2, k5] at e
    obtain ⟨q1, q2⟩ := S.inj l3 p1 o1 l4 p2 o2 k1 k4 e
    refine ⟨?_, q2⟩
    rcases k3 with ⟨a1, a2⟩ | ⟨a1, a2⟩ <;> rcases k6 with ⟨b1, b2⟩ | ⟨b1, b2⟩ <;> omega
  · by_cases c : l' < n
    · rw [List.getElem?_append_left (by rw [hlen]; exact c), List.getElem?_take_of_lt c] at e
      exact S.rt l' t' (by rw [List.getElem?_append_left (by omega)]; exact e)
    · have c2 : l' = n := by
        have := (List.getElem?_eq_some_iff.mp e).1
        rw [List.length_append, List.length_singleton, hlen] at this
        omega
      rw [c2, List.getElem?_append_right (by omega), hlen, Nat.sub_self] at e
      cases e
      exact S.rt s.length t (by rw [List.getElem?_append_right (Nat.le_refl _), Nat.sub_self]; rfl)
theorem RV.take {T : TX} {G : Hp} {AD : AM} {Fr : Hp} {s : Sto} {H : Hp} {v : Val} {x : V} (r : RV T G AD Fr s H v x) (n : Nat) (hn : n ≤ s.length) (hv : ∀ l p, v ≠ .m l p) : ∃ AD', (∀ l, l < n → AD' l = AD l) ∧ RV T G AD' Fr (s.take n) H v x := by
  cases v with
  | d y => exact ⟨AD, fun _ _ => rfl, r.1.take n, r.2⟩
  | m l p => exact absurd rfl (hv l p)
  | f t =>
    obtain ⟨S, rfl⟩ := r
    refine ⟨_, fun l hl => adPut_ne (by omega), S.down n hn, ?_⟩
    rw [List.length_take, Nat.min_eq_left hn]
    exact congrArg V.ref (congrFun (adPut_same (AD := AD)).symm [])
theorem Ext.take {s0 s : Sto} {AD0 AD AD' : AM} {n : Nat} (e : Ext (fun l => l < n) s0 AD0 s AD) (h0 : s0.length = n) (h : ∀ l, l < n → AD' l = AD l) : Ext All s0 AD0 (s.take n) AD' :=
  ⟨by rw [List.length_take]; have := e.len; omega, fun l p o _ hr => by
    obtain ⟨h1, h2⟩ := res_take hr
    rw [h l h2]
    exact e.old l p o h2 h1⟩
theorem res_rep {s : Sto} {n l : Nat} {p : List Str} : res (s ++ List.replicate n none) l p = res s l p := by
  unfold res
  by_cases h : l < s.length
  · rw [List.getElem?_append_left h]
  · rw [List.getElem?_append_right (by omega), List.getElem?_eq_none (show s.length ≤ l by omega)]
    by_cases h2 : l - s.length < n
    · rw [List.getElem?_replicate, if_pos h2]
    · rw [List.getElem?_replicate, if_neg h2]
theorem VRs.get {T : TX} {G : Hp} {AD : AM} {s : Sto} : ∀ {vs : List Val} {xs : List V} {i : Nat} {v : Val}, VRs T G AD s vs xs → vs[i]? = some v → ∃ x, xs[i]? = some x ∧ VR T G AD s v x
  | _, _, _, _, .nil, h => by simp at h
  | _, _, 0, v, .cons r t, h => by simp at h; subst h; exact ⟨_, rfl, r⟩
  | _, _, i + 1, v, .cons r t, h => by
    obtain ⟨x, h1, h2⟩ := VRs.get (i := i) (v := v) t (by simpa using h)
    exact ⟨x, by simpa using h1, h2⟩
theorem argsEnv {args : List Val} {n i : Nat} {v : Val} (h : (args.map some ++ List.replicate n none)[i]? = some (some v)) : args[i]? = some v := by
  by_cases hi : i < args.length
  · rw [List.getElem?_append_left (by rw [List.length_map]; exact hi), List.getElem?_map] at h
    cases e : args[i]? with
    | none => rw [e] at h; cases h
    | some a => rw [e] at h; cases h; rfl
  · rw [List.getElem?_append_right (by rw [List.length_map]; omega), List.getElem?_replicate] at h
    split at h <;> cases h
section
variable {P : Program} {w : World} {K : PySem.W.Frag} {mg : Str → Option Value} {base : Heap} {x qual : Str} {params : Arguments} {body : List Stmt} {scope : Scope} {dvs : List V} {kws : List (Str × V)} {f : Addr} {fd : FuncData}
theorem start_sim {T : TX} {G : Hp} {AD : AM} {Fr : Hp} {s : Sto} {H : Hp} {args : List Val} {vs : List V} {N : List Str} {nk : Nat} {ow : List (Nat × Nat)} (S : SimS T G AD Fr s H) (r : VRs T G AD s args vs) :
    SimE T (fc s.length nk ow) G AD Fr (args.map some ++ List.replicate (N.length - args.length) none) (s ++ List.replicate nk none) (L2.start N vs) H := by
  have hl := r.len
  refine ⟨S.congr (fun l p o h => by rw [res_rep] at h; exact h) (fun l t h => ?_), ⟨?_, fun i v h => ?_, fun i l p h => ?_, fun _ _ h => by (cases h), fun p h => by (cases h)⟩, ?_⟩
  · by_cases c : l < s.length
    · rw [List.getElem?_append_left c] at h; exact h
    · rw [List.getElem?_append_right (by omega), List.getElem?_replicate] at h
      split at h <;> cases h
  · unfold L2.start
    rw [List.length_append, List.length_append, List.length_map, List.length_map, List.length_replicate, List.length_replicate, hl]
  · obtain ⟨x, h1, h2⟩ := r.get (argsEnv h)
    refine ⟨x, ?_, ?_⟩
    · unfold L2.start
      have hi : i < vs.length := (List.getElem?_eq_some_iff.mp h1).1
      rw [List.getElem?_append_left (by rw [List.length_map]; exact hi), List.getElem?_map, h1]; rfl
    · cases v with
      | d y => exact h2
      | f t => exact h2
      | m l p => exact ⟨by rw [List.length_append]; have := h2.1; omega, fun o ho => h2.2 o (by rw [res_rep] at ho; exact ho)⟩
  · obtain ⟨x, h1, h2⟩ := r.get (argsEnv h)
    exact .inl h2.1
  · rw [List.length_append, List.length_replicate]; exact Nat.le_refl _
theorem body_post {T : TX} {W : WX} {G : Hp} {AD : AM} {Fr : Hp} {s : Sto} {args : List Val} {nk n : Nat} {ow : List (Nat × Nat)} {mb : Nat → SM} {Q : VK} {E : XK} (hW : ∀ cls dx σ H', E cls dx H' → W cls dx σ H')
    (p : PostF T Fr G AD s (runF nk n mb args s) Q E) : PostS T (fc s.length nk ow) W Fr G AD (s ++ List.replicate nk none) (mb s.length (args.map some ++ List.replicate (n - args.length) none) (s ++ List.replicate nk none)) { nx := fun _ H' => Q .non H', rt := Q } := by
  have ext : ∀ {s' : Sto} {AD' AD2 : AM}, Ext (fun l => l < s.length) (s ++ List.replicate nk none) AD s' AD' → (∀ l, l < s.length → AD2 l = AD' l) → s.length ≤ s'.length ∧ Ext (fun l => l < s.length) s AD (s'.take s.length) AD2 := fun {s' AD' AD2} e h => by
    have h1 := e.len
    rw [List.length_append] at h1
    refine ⟨by omega, ⟨by rw [List.length_take]; omega, fun l p o hl hr => ?_⟩⟩
    obtain ⟨h2, h3⟩ := res_take hr
    obtain ⟨⟨o', h4⟩, h5⟩ := e.old l p o hl h2
    rw [res_rep] at h4
    exact ⟨⟨o', h4⟩, (congrFun (h l hl) p).trans h5⟩
  unfold runF at p
  cases hr : mb s.length (args.map some ++ List.replicate (n - args.length) none) (s ++ List.replicate nk none) with
  | bad => rw [hr] at p; exact p
  | exc d env' s' =>
    rw [hr] at p
    intro G' AD' H' σ' cls dx g e S' er
    obtain ⟨k1, k2⟩ := ext e fun _ _ => rfl
    exact hW _ _ _ _ (p G' AD' H' cls dx g k2 (S'.ss.take _) er)
  | ok fw env' s' =>
    rw [hr] at p
    cases fw with
    | nx =>
      intro G' AD' H' σ' g e S'
      obtain ⟨k1, k2⟩ := ext e fun _ _ => rfl
      exact p G' AD' H' _ g k2 ⟨S'.ss.take _, .non⟩
    | bk => exact p.elim
    | ct => exact p.elim
    | rt v =>
      intro G' AD' H' σ' g e x r
      have hv : ∀ l q, v ≠ .m l q := fun l q z => by subst z; exact p
      have hl : s.length ≤ s'.length := (ext e fun _ _ => rfl).1
      obtain ⟨AD2, k3, k4⟩ := r.take s.length hl hv
      obtain ⟨_, k2⟩ := ext e k3
      have p2 : PostF T Fr G AD s (.ok v (s'.take s.length)) Q E := by
        cases v with
        | d y => exact p
        | f t => exact p
        | m l q => exact absurd rfl (hv l q)
      exact p2 G' AD2 H' x g k2 k4
/-- THE RULE for a def -/
theorem fnD {N ps : List Str} {k nk : Nat} {ow : List (Nat × Nat)} {mb : Nat → SM} (F : FunD K x qual params body scope dvs kws f fd) (S : FnScope N ps scope)
    (hbody : ∀ (cdv : Value) (A : Around) (outer : List Env) (s : Shared) (H : Hp) (E : XK) (b : Nat), Room k (A.deeper (envOfC qual scope s.heap.objs.size f cdv)) →
      DB (cxOf (L2.CX P w) P w K mg base N qual scope f cdv A outer s H E) (fc b nk ow) (fun cls dx _ H' => E cls dx H') body (mb b)) : FnD P w K mg base (k + 1) f fd ps (runF nk N.length mb) := by
  refine F.ok S (fun vs H Q E h => h.1) (fun cdv A outer s H vs Q E hr h => ?_)
  obtain ⟨hl, G, AD, Fr, st, args, S0, r0, p⟩ := h
  exact ⟨_, (hbody cdv A outer s H E st.length hr).ps, G, AD, Fr, _, _, start_sim S0 r0, body_post (fun _ _ _ _ h => h) p⟩
end

/-! ## argument lists of own calls: a new object becomes a root for the time of the call -/
def rNil : En → M (List Val) := fun _ => ret []
def rCons (m : En → M Val) (r : En → M (List Val)) : En → M (List Val) := fun env => bnd (stl m env) fun v => bnd (r env) fun vs => ret (v :: vs)
def rRoot (m : En → M Val) (r : En → M (List Val)) : En → M (List Val) := fun env => bnd (m env) fun v s => match v with
  | .f t => (bnd (r env) fun vs => ret (.m s.length [] :: vs)) (s ++ [some t])
  | v => (bnd (r env) fun vs => ret (v :: vs)) s
def tR (X : Cx) (Y : FC) (W : WX) (m : En → M (List Val)) : TA := fun σ H Q => ∃ n G AD Fr env s, SimE (tx X) Y G AD Fr env s σ H ∧ Y.b + Y.nk ≤ n ∧ n ≤ s.length ∧ PostR (fun l => l < n) (tx X) W Fr σ G AD s (m env s) (CV (tx X) Fr Q)
structure DR (X : Cx) (Y : FC) (W : WX) (es : List Expr) (m : En → M (List Val)) : Prop where
  pa : PA X es (tR X Y W m)
  ln : ∀ env s vs s', m env s = .ok vs s' → vs.length = es.length
theorem EnvOk.monoQ {T : TX} {Y : FC} {G G' : Hp} {AD AD' : AM} {env : En} {s s' : Sto} {σ : L2.St} {q : Nat → Prop} (h : EnvOk T Y G AD env s σ) (g : Same G G') (e : Ext q s AD s' AD') (hq : ∀ l, l < Y.b + Y.nk → q l) : EnvOk T Y G' AD' env s' σ := by
  refine ⟨h.len, fun i v hv => ?_, h.own, h.g0.trans g, h.px⟩
  obtain ⟨x, h1, h2⟩ := h.val i v hv
  refine ⟨x, h1, ?_⟩
  cases v with
  | d y => exact Rep.mono g h2
  | m l p =>
    have hl : l < Y.b + Y.nk := by
      rcases h.own i l p hv with z | ⟨k, _, z1, z2, _⟩ <;> omega
    refine ⟨Nat.lt_of_lt_of_le h2.1 e.len, fun o ho => ?_⟩
    obtain ⟨⟨o', h3⟩, h4⟩ := e.old l p o (hq l hl) ho
    rw [h4]
    exact h2.2 o' h3
  | f t => exact h2
theorem stepR {X : Cx} {Y : FC} {W : WX} {ma : En → M (List Val)} {β : Type} {q : Nat → Prop} {k : List Val → M β} {G : Hp} {AD : AM} {Fr : Hp} {env : En} {s : Sto} {σ : L2.St} {H : Hp} {Q' : List V → Hp → Prop} {C : β → Hp → AM → Sto → Hp → Prop}
    (S : SimE (tx X) Y G AD Fr env s σ H) (hq : ∀ l, q l → l < s.length) (p : PostR q (tx X) W Fr σ G AD s ((ma env s).bnd k) C)
    (h : ∀ vs s1 G1 AD1 H1 xs, ma env s = .ok vs s1 → Same G G1 → Ext (fun l => l < s.length) s AD s1 AD1 → SimE (tx X) Y G1 AD1 Fr env s1 σ H1 → VRs (tx X) G1 AD1 s1 vs xs → PostR q (tx X) W Fr σ G1 AD1 s1 (k vs s1) C → Q' xs H1) : tR X Y W ma σ H Q' := by
  refine ⟨s.length, G, AD, Fr, env, s, S, S.bl, Nat.le_refl _, ?_⟩
  cases e : ma env s with
  | bad => rw [e] at p; exact p
  | exc d s' =>
    rw [e] at p
    exact fun G' AD' H' cls dx g x => p G' AD' H' cls dx g (x.mono hq)
  | ok v s' =>
    rw [e] at p
    have p' : PostR q (tx X) W Fr σ G AD s (k v s') C := p
    exact fun G' AD' H' g x xs r rs => h v s' G' AD' H' xs e g x ⟨r, S.en.monoQ g x fun l hl => Nat.lt_of_lt_of_le hl S.bl, Nat.le_trans S.bl x.len⟩ rs (p'.mono g (x.mono hq))
section
variable {X : Cx} {Y : FC} {W : WX} {e : Expr} {es : List Expr} {ma : En → M Val} {mv : En → M (List Val)} {pos : Pos}
theorem dr_nil : DR X Y W [] rNil := ⟨paImp pa_nil fun σ H Q ⟨n, G, AD, Fr, env, s, S, _, _, p⟩ => p G AD H (Same.refl _) Ext.refl [] S.ss .nil, fun _ _ _ _ h => by cases h; rfl⟩
theorem VR.monoQ {T : TX} {G G' : Hp} {AD AD' : AM} {s s' : Sto} {v : Val} {x : V} (h : VR T G AD s v x) (g : Same G G') (e : Ext (fun l => l < s.length) s AD s' AD') : VR T G' AD' s' v x := by
  cases v with
  | d y => exact Rep.mono g h
  | m l p =>
    refine ⟨Nat.lt_of_lt_of_le h.1 e.len, fun o ho => ?_⟩
    obtain ⟨⟨o', h3⟩, h4⟩ := e.old l p o h.1 ho
    rw [h4]
    exact h.2 o' h3
  | f t => exact h
theorem bnd_inv {α β : Type} {m : M α} {k : α → M β} {s s' : Sto} {b : β} (h : bnd m k s = .ok b s') : ∃ a s1, m s = .ok a s1 ∧ k a s1 = .ok b s' := by
  unfold bnd at h
  cases e : m s with
  | ok a s1 => rw [e] at h; exact ⟨a, s1, rfl, h⟩
  | exc d s1 => rw [e] at h; cases h
  | bad => rw [e] at h; cases h
theorem dr_cons (ha : DE X Y W e ma) (hr : DR X Y W es mv) (hs : starEach (e :: es) X.env = (false, eval e X.env) :: starEach es X.env) : DR X Y W (e :: es) (rCons ma mv) :=
  ⟨paImp (pa_cons ha.stl.pe hr.pa hs) fun σ H Q ⟨n, G, AD, Fr, env, s, S, hn1, hn2, p⟩ => by
    refine stepE (k := fun v => bnd (mv env) fun vs => ret (v :: vs)) S p fun v s1 G1 AD1 H1 x h1 g1 e1 S1 r1 p1 => ?_
    refine stepR (k := fun vs => ret (v :: vs)) S1 (fun l hl => by have := e1.len; omega) p1 fun vs s2 G2 AD2 H2 xs h2 g2 e2 S2 r2 p2 => ?_
    exact p2 G2 AD2 H2 (Same.refl _) Ext.refl (x :: xs) S2.ss (.cons ((r1.vr (stl_notf h1)).monoQ g2 e2) r2), fun env s vs s' h => by
    obtain ⟨v, s1, _, h2⟩ := bnd_inv h
    obtain ⟨ws, s2, h3, h4⟩ := bnd_inv h2
    cases h4
    rw [List.length_cons, List.length_cons, hr.ln _ _ _ _ h3]⟩
theorem dr_root (ha : DE X Y W e ma) (hr : DR X Y W es mv) (hs : starEach (e :: es) X.env = (false, eval e X.env) :: starEach es X.env) : DR X Y W (e :: es) (rRoot ma mv) :=
  ⟨paImp (pa_cons ha.pe hr.pa hs) fun σ H Q ⟨n, G, AD, Fr, env, s, S, hn1, hn2, p⟩ => by
    refine stepE S p fun v s1 G1 AD1 H1 x h1 g1 e1 S1 r1 p1 => ?_
    have hn : n ≤ s1.length := Nat.le_trans hn2 e1.len
    cases v with
    | d y =>
      refine stepR (k := fun vs => ret (.d y :: vs)) S1 (fun l hl => by omega) p1 fun vs s2 G2 AD2 H2 xs h2 g2 e2 S2 r2 p2 => ?_
      exact p2 G2 AD2 H2 (Same.refl _) Ext.refl (x :: xs) S2.ss (.cons (VR.monoQ (v := .d y) r1.2 g2 e2) r2)
    | m l z =>
      refine stepR (k := fun vs => ret (.m l z :: vs)) S1 (fun l hl => by omega) p1 fun vs s2 G2 AD2 H2 xs h2 g2 e2 S2 r2 p2 => ?_
      exact p2 G2 AD2 H2 (Same.refl _) Ext.refl (x :: xs) S2.ss (.cons (VR.monoQ (v := .m l z) r1.2 g2 e2) r2)
    | f t =>
      obtain ⟨r2, rfl⟩ := r1
      have ex : Ext (fun l => l < s1.length) s1 AD1 (s1 ++ [some t]) AD1 := ⟨by rw [List.length_append]; omega, fun l p o hl h => ⟨⟨o, by rw [res_append (by omega)] at h; exact h⟩, rfl⟩⟩
      have S2 : SimE (tx X) Y G1 AD1 Fr env (s1 ++ [some t]) σ H1 := ⟨r2, S1.en.monoQ (Same.refl _) ex fun l hl => Nat.lt_of_lt_of_le hl S1.bl, by rw [List.length_append]; have := S1.bl; omega⟩
      have p2 : PostR (fun l => l < n) (tx X) W Fr σ G1 AD1 (s1 ++ [some t]) ((mv env (s1 ++ [some t])).bnd fun vs => ret (.m s1.length [] :: vs)) (CV (tx X) Fr Q) := PostR.mono p1 (Same.refl _) (ex.mono fun l hl => by omega)
      refine stepR (k := fun vs => ret (.m s1.length [] :: vs)) S2 (fun l hl => by rw [List.length_append]; omega) p2 fun vs s3 G3 AD3 H3 xs h3 g3 e3 S3 r3 p3 => ?_
      refine p3 G3 AD3 H3 (Same.refl _) Ext.refl (_ :: xs) S3.ss (.cons ?_ r3)
      have v0 : VR (tx X) G1 AD1 (s1 ++ [some t]) (.m s1.length []) (.ref (AD1 s1.length [])) := ⟨by rw [List.length_append, List.length_singleton]; omega, fun _ _ => rfl⟩
      exact v0.monoQ g3 e3, fun env s vs s' h => by
    obtain ⟨v, s1, _, h2⟩ := bnd_inv h
    cases v with
    | d y =>
      obtain ⟨ws, s2, h3, h4⟩ := bnd_inv h2
      cases h4
      rw [List.length_cons, List.length_cons, hr.ln _ _ _ _ h3]
    | m l z =>
      obtain ⟨ws, s2, h3, h4⟩ := bnd_inv h2
      cases h4
      rw [List.length_cons, List.length_cons, hr.ln _ _ _ _ h3]
    | f t =>
      obtain ⟨ws, s2, h3, h4⟩ := bnd_inv h2
      cases h4
      rw [List.length_cons, List.length_cons, hr.ln _ _ _ _ h3]⟩
/-! ## calls -/
def eCall (f : List Val → M Val) (ma : En → M (List Val)) : En → M Val := fun env s => match ma env s with
  | .ok vs s1 => match f vs s1 with
    | .ok v s2 => v.fin (s2.take s.length)
    | .exc d s2 => .exc d (s2.take s.length)
    | .bad => .bad
  | .exc d s1 => .exc d (s1.take s.length)
  | .bad => .bad
/-- the promise of a call whose arguments came about -/
theorem call_post {T : TX} {Y : FC} {W : WX} {Fr : Hp} {σ : L2.St} {G G1 : Hp} {AD AD1 : AM} {env : En} {s s1 : Sto} {H1 : Hp} {f : List Val → M Val} {vs : List Val} {xs : List V} {Q : VK} {n : Nat} (hn : xs.length = n)
    (p : PostR All T W Fr σ G AD s (match f vs s1 with
      | .ok v s2 => v.fin (s2.take s.length)
      | .exc d s2 => .exc d (s2.take s.length)
      | .bad => .bad) (CE T Fr Q)) (g : Same G G1) (e : Ext (fun l => l < s.length) s AD s1 AD1) (S : SimS T G1 AD1 Fr s1 H1) (r : VRs T G1 AD1 s1 vs xs) : spD T n f xs H1 Q (WE W σ) := by
  refine ⟨hn, G1, AD1, Fr, s1, vs, S, r, ?_⟩
  have hl := e.len
  cases hr : f vs s1 with
  | bad => rw [hr] at p; exact p
  | exc d s2 =>
    rw [hr] at p
    intro G' AD' H' cls dx g' e' S' er
    exact p G' AD' H' cls dx (g.trans g') ((e.trans (e'.mono fun l hl' => by omega)).take rfl fun _ _ => rfl) (S'.take _) er
  | ok v s2 =>
    rw [hr] at p
    intro G' AD' H' x g' e' r'
    have hv : ∀ l q, v ≠ .m l q := fun l q z => by subst z; exact p
    obtain ⟨AD2, k3, k4⟩ := r'.take s.length (Nat.le_trans hl e'.len) hv
    have p2 : PostR All T W Fr σ G AD s (.ok v (s2.take s.length)) (CE T Fr Q) := by
      cases v with
      | d y => exact p
      | f t => exact p
      | m l q => exact absurd rfl (hv l q)
    exact p2.done (g.trans g') ((e.trans (e'.mono fun l hl' => by omega)).take rfl k3) k4
theorem args_post {Q : VK} {G : Hp} {AD : AM} {Fr : Hp} {env : En} {s : Sto} {σ : L2.St} {H : Hp} {f : List Val → M Val} {n : Nat} {Q' : List V → Hp → Prop} (S : SimE (tx X) Y G AD Fr env s σ H) (p : PostR All (tx X) W Fr σ G AD s (eCall f mv env s) (CE (tx X) Fr Q))
    (h : ∀ vs s1 G1 AD1 H1 xs, mv env s = .ok vs s1 → Same G G1 → Ext (fun l => l < s.length) s AD s1 AD1 → SimE (tx X) Y G1 AD1 Fr env s1 σ H1 → VRs (tx X) G1 AD1 s1 vs xs → (xs.length = n → spD (tx X) n f xs H1 Q (WE W σ)) → Q' xs H1) : tR X Y W mv σ H Q' := by
  refine ⟨s.length, G, AD, Fr, env, s, S, S.bl, Nat.le_refl _, ?_⟩
  unfold eCall at p
  cases e : mv env s with
  | bad => rw [e] at p; exact p
  | exc d s' =>
    rw [e] at p
    exact fun G' AD' H' cls dx g x S' er => p G' AD' H' cls dx g (x.take rfl fun _ _ => rfl) (S'.take _) er
  | ok v s' =>
    rw [e] at p
    exact fun G' AD' H' g x xs r rs => h v s' G' AD' H' xs e g x ⟨r, S.en.monoQ g x fun l hl => Nat.lt_of_lt_of_le hl S.bl, Nat.le_trans S.bl x.len⟩ rs fun hn => call_post (Y := Y) (env := env) hn p g x r rs
end
end DL
end

set_option Elab.async false
set_option linter.all false
set_option maxRecDepth 100000
set_option maxHeartbeats 4000000
noncomputable section
namespace DL
open PySem PySem.Spec PyProof.Rows L2

/-! ## what can be called, at A -/
structure Cal (X : Cx) (A : Around) (W : WX) (u : Value) (n : Nat) (m : List Val → M Val) : Prop where
  run : ∀ (pins : List (Addr × Obj)) (s : Shared) (σ : L2.St) (H : Hp) (Q : VK) (us : List Value) (vs : List V), Inv X pins σ H s → Vals vs us → spD (tx X) n m vs H Q (WE W σ) → wpAny (model X.prog X.w) A (call u us) (EP X pins σ Q) X.xe s
section
variable {X : Cx} {Y : FC} {W : WX} {A : Around} {k n : Nat} {f : Addr} {fd : FuncData} {ps : List Str} {m : List Val → M Val} {x : Str} {p pos : Pos} {e : Expr} {es : List Expr} {mv : En → M (List Val)} {dvs : List V} {ds : List Value} {dd : List D}
theorem env0_at {pins : List (Addr × Obj)} {s : Shared} {σ : L2.St} {H : Hp} (I : Inv X pins σ H s) (hf : A.frames = X.A.frames) : Env0 X.prog X.w X.K X.mg X.base A X.stack s H := by
  have e := I.env0
  exact ⟨by rw [hf]; exact e.frames, e.mod, e.bs, e.bsz, e.funs, e.frf, e.hok, e.bare⟩
theorem fn_run {pins : List (Addr × Obj)} {σ : L2.St} {H : Hp} {s : Shared} {Q : VK} {us : List Value} {vs : List V} {sp : Sp} {E : L2.St → XK} (F : FnOk X.prog X.w X.K X.mg X.base (L2.CX X.prog X.w) k f fd ps sp) (hr : Room k A) (hf : A.frames = X.A.frames) (hb : Binds X.K fd ps ds) (hd : Vals dvs ds) (hx : PassesAt (L2.CX X.prog X.w) X σ (E σ))
    (I : Inv X pins σ H s) (r : Vals vs us) (h : sp (vs ++ dvs) H Q (E σ)) : wpAny (model X.prog X.w) A (call (.ref f) us) (EP X pins σ Q) X.xe s := by
  have r2 : Vals (vs ++ dvs) (us ++ ds) := r.append hd
  have hl : (us ++ ds).length = ps.length := by rw [← r2.length]; exact F.len _ _ _ _ h
  refine wpAny_call (codeAny_mono (F.run A X.stack s H ⟨us, []⟩ (us ++ ds) (vs ++ dvs) Q (E σ) hr (env0_at I hf) (hb s us I.kIn hl) r2 h) fun r s' hq => ?_)
  cases r with
  | error e => exact hx pins H s e s' I hq
  | ok fl =>
    cases fl with
    | ret u => exact I.after hq
    | next => exact False.elim hq
    | brk => exact False.elim hq
    | cont => exact False.elim hq
theorem cal_fn (F : FnD X.prog X.w X.K X.mg X.base k f fd ps m) (hr : Room k A) (hf : A.frames = X.A.frames) (hb : Binds X.K fd ps []) (tk : Takes X W) (hn : ps.length = n) : Cal X A W (.ref f) n m :=
  ⟨fun pins s σ H Q us vs I r q => fn_run (E := WE W) (dvs := []) F hr hf hb .nil (passAt tk σ) I r (by rw [List.append_nil]; rw [hn]; exact q)⟩
def VRs.app {T : TX} {G : Hp} {AD : AM} {s : Sto} : ∀ {vs ws : List Val} {xs ys : List V}, VRs T G AD s vs xs → VRs T G AD s ws ys → VRs T G AD s (vs ++ ws) (xs ++ ys)
  | _, _, _, _, .nil, h => h
  | _, _, _, _, .cons r t, h => .cons r (t.app h)
theorem RepL.vrs {T : TX} {G : Hp} {AD : AM} {s : Sto} : ∀ {xs : List V} {ds : List D}, RepL T G xs ds → VRs T G AD s (ds.map .d) xs
  | _, _, .nil => .nil
  | _, _, .cons r t => .cons r (RepL.vrs t)
/-- the rest of the parameters by their defaults -/
theorem cal_fnD (F : FnD X.prog X.w X.K X.mg X.base k f fd ps m) (hr : Room k A) (hf : A.frames = X.A.frames) (hb : Binds X.K fd ps ds) (hd : Vals dvs ds) (hrep : ∀ G, RepL (tx X) G dvs dd) (tk : Takes X W) (hn : ps.length = n + dd.length) : Cal X A W (.ref f) n (fun vs => m (vs ++ dd.map .d)) :=
  ⟨fun pins s σ H Q us vs I r q => fn_run (E := WE W) F hr hf hb hd (passAt tk σ) I r (by
    obtain ⟨hl, G, AD, Fr, s0, args, S, rs, p⟩ := q
    have hdl : dvs.length = dd.length := (RepL.len (hrep G)).symm ▸ rfl
    exact ⟨by rw [List.length_append, hl, hn, hdl], G, AD, Fr, s0, args ++ dd.map .d, S, rs.app (RepL.vrs (hrep G)), p⟩)⟩
theorem de_call (hc : Cal X X.A W (.ref f) n m) (hg : Gl X x) (hm : X.mg x = some (.ref f)) (hk : PySem.W.keepIn X.K (.ref f) = true) (ha : DR X Y W (e :: es) mv) (hn : (e :: es).length = n := by rfl)
    (hdb : (x == ("__debug__" : Str)) = false := by decide) (he : starEach (e :: es) X.env = (false, eval e X.env) :: starEach es X.env := by rfl) (hpl : (backTo pos (starEach es X.env)).any (·.1) = false := by rfl) : DE X Y W (.Call (.Name x p) (e :: es) [] pos) (eCall m mv) := by
  refine mkE (t := fun σ H Q => tR X Y W mv σ H fun vs H1 => spD (tx X) n m vs H1 Q (WE W σ)) ⟨fun pins s σ H Q I h => ?_⟩ fun σ H Q G AD Fr env s S p => ?_
  · refine wpAny_Call_Name_kw (ld_glob I hg hm ?_ hdb)
    refine PySem.W.callWith_K (h₀ := X.base) I.ok.mod.kin hk (thn (ha.pa.run pos pins s σ H _ I h) fun us s1 ⟨vs, H1, I1, r, q⟩ => ⟨I1.kIn, hc.run pins s1 σ H1 Q us vs I1 r q⟩) he hpl
  · exact args_post (n := n) S p fun vs s1 G1 AD1 H1 xs h1 g1 e1 S1 r1 q => q (by rw [← r1.len, ha.ln _ _ _ _ h1, hn])
theorem de_call0 (hc : Cal X X.A W (.ref f) 0 m) (hg : Gl X x) (hm : X.mg x = some (.ref f)) (hk : PySem.W.keepIn X.K (.ref f) = true) 
    (hdb : (x == ("__debug__" : Str)) = false := by decide) : DE X Y W (.Call (.Name x p) [] [] pos) (eCall m rNil) := by
  refine mkE (t := fun σ H Q => spD (tx X) 0 m [] H Q (WE W σ)) ⟨fun pins s σ H Q I h => ?_⟩ fun σ H Q G AD Fr env s S p => ?_
  · refine wpAny_Call_Name_kw (ld_glob I hg hm ?_ hdb)
    exact PySem.W.callWith_K0 I.kIn hk (hc.run pins s σ H Q [] [] I .nil h)
  · exact call_post (Y := Y) (env := env) rfl p (Same.refl _) Ext.refl S.ss .nil
end
end DL
end

set_option Elab.async false
set_option linter.all false
set_option maxRecDepth 100000
set_option maxHeartbeats 4000000
noncomputable section
namespace DL
open PySem PySem.Spec PyProof.Rows L2

/-! ## fields -/
theorem RepF.look {T : TX} {G : Hp} {f : Str} {d : D} : ∀ {vfs : List (Str × V)} {fs : List (Str × D)}, RepF T G vfs fs → fs.lookup f = some d → ∃ v, vfs.lookup f = some v ∧ Rep T G v d
  | _, _, .nil, h => by cases h
  | _, _, .cons (n := n) r t, h => by
    rw [List.lookup_cons] at h ⊢
    cases e : f == n with
    | true => rw [e] at h; cases h; exact ⟨_, rfl, r⟩
    | false => rw [e] at h; exact RepF.look t h
theorem RepF.lookN {T : TX} {G : Hp} {f : Str} : ∀ {vfs : List (Str × V)} {fs : List (Str × D)}, RepF T G vfs fs → fs.lookup f = none → vfs.lookup f = none
  | _, _, .nil, h => rfl
  | _, _, .cons (n := n) r t, h => by
    rw [List.lookup_cons] at h ⊢
    cases e : f == n with
    | true => rw [e] at h; cases h
    | false => rw [e] at h; exact RepF.lookN t h
theorem ndF_look {T : TX} {G : Hp} {ad : List Str → Addr} {p : List Str} {f : Str} {d : Fl} : ∀ {vfs : List (Str × V)} {fs : List (Str × Fl)}, Paired (NdF T G ad p) vfs fs → fs.lookup f = some d → ∃ v, vfs.lookup f = some v ∧ NdF T G ad p (f, v) (f, d)
  | _, _, .nil, h => by cases h
  | (n, v) :: vfs, (n', x) :: fs, .cons r t, h => by
    have e0 : n = n' := r.1
    subst e0
    rw [List.lookup_cons] at h ⊢
    cases e : f == n with
    | true => rw [e] at h; cases h; have e2 := beq_iff_eq.mp e; subst e2; exact ⟨_, rfl, r⟩
    | false => rw [e] at h; exact ndF_look t h
theorem ndF_lookN {T : TX} {G : Hp} {ad : List Str → Addr} {p : List Str} {f : Str} : ∀ {vfs : List (Str × V)} {fs : List (Str × Fl)}, Paired (NdF T G ad p) vfs fs → fs.lookup f = none → vfs.lookup f = none
  | _, _, .nil, h => rfl
  | (n, v) :: vfs, (n', x) :: fs, .cons r t, h => by
    have e0 : n = n' := r.1
    subst e0
    rw [List.lookup_cons] at h ⊢
    cases e : f == n with
    | true => rw [e] at h; cases h
    | false => rw [e] at h; exact ndF_lookN t h
structure RdA (X : Cx) (W : WX) (f : Str) (rd : Val → M Val) : Prop where
  run : ∀ (pins : List (Addr × Obj)) (s : Shared) (σ : L2.St) (H : Hp) (Q : VK) (G : Hp) (AD : AM) (Fr : Hp) (st : Sto) (v : Val) (x : V), Inv X pins σ H s → SimS (tx X) G AD Fr st H → VR (tx X) G AD st v x → PostR All (tx X) W Fr σ G AD st (rd v st) (CE (tx X) Fr Q) →
    ∃ a, x = .ref a ∧ wpAny (model X.prog X.w) X.A (getAttr (.ref a) f true) (EP X pins σ Q) X.xe s
def eAt (rd : Val → M Val) (ma : En → M Val) : En → M Val := fun env => bnd (stl ma env) rd
/-- a field -/
def fldV (cs : List Str) (f : Str) : Val → M Val := fun v s => match v with
  | .d (.obj c fs) => if c ∈ cs then (match fs.lookup f with | some x => .ok (.d x) s | none => .bad) else .bad
  | .m l p => match res s l p with
    | some (.ins c fs) => if c ∈ cs then (match fs.lookup f with | some (.d x) => .ok (.d x) s | some .c => .ok (.m l (p ++ [f])) s | none => .bad) else .bad
    | _ => .bad
  | _ => .bad
/-- an object of which class -/
def clsV : Val → Sto → Option Str := fun v s => match v with
  | .d (.obj c _) => some c
  | .m l p => match res s l p with
    | some (.ins c _) => some c
    | _ => none
  | _ => none
/-- the same where the object has no field m -/
def clsM (m : Str) : Val → Sto → Option Str := fun v s => match v with
  | .d (.obj c fs) => if fs.lookup m = none then some c else none
  | .m l p => match res s l p with
    | some (.ins c fs) => if fs.lookup m = none then some c else none
    | _ => none
  | _ => none
def FldF (X : Cx) (cs : List Str) (f : Str) : Prop := ∀ c ∈ cs, ∃ C, X.mg c = some (.ref C) ∧ Cls X.K C ∧ NoAttr X.K C f
theorem FldF.nil {X : Cx} {f : Str} : FldF X [] f := fun c h => by cases h
theorem FldF.cons {X : Cx} {cs : List Str} {c f : Str} {C : Addr} (h1 : X.mg c = some (.ref C)) (h2 : Cls X.K C) (h3 : NoAttr X.K C f) (h : FldF X cs f) : FldF X (c :: cs) f := fun c' h' => by
  rcases List.mem_cons.mp h' with rfl | h'
  · exact ⟨C, h1, h2, h3⟩
  · exact h c' h'
/-- the object of a class -/
theorem clsV_of {X : Cx} {G : Hp} {AD : AM} {Fr : Hp} {st : Sto} {H : Hp} {v : Val} {x : V} {c : Str} (S : SimS (tx X) G AD Fr st H) (r : VR (tx X) G AD st v x) (h : clsV v st = some c) : ∃ a C dx vfs, x = .ref a ∧ X.mg c = some (.ref C) ∧ H a = some (.ins C dx vfs) := by
  unfold clsV at h
  split at h
  · rename_i c' fs
    cases h
    cases (r : Rep (tx X) G x _) with
    | obj h1 h2 h3 => exact ⟨_, _, _, _, rfl, h1, S.gh _ _ h2⟩
  · rename_i l p
    split at h
    · rename_i c' fs e
      cases h
      have e2 := r.2 _ e
      subst e2
      obtain ⟨C, dx, vfs, h0, h1, h2⟩ := S.nd l p _ e
      exact ⟨_, _, _, _, rfl, h0, h1⟩
    · cases h
  · cases h
theorem clsM_of {X : Cx} {G : Hp} {AD : AM} {Fr : Hp} {st : Sto} {H : Hp} {v : Val} {x : V} {c m : Str} (S : SimS (tx X) G AD Fr st H) (r : VR (tx X) G AD st v x) (h : clsM m v st = some c) : ∃ a C dx vfs, x = .ref a ∧ X.mg c = some (.ref C) ∧ H a = some (.ins C dx vfs) ∧ vfs.lookup m = none := by
  unfold clsM at h
  split at h
  · rename_i c' fs
    split at h
    · rename_i hn
      cases h
      cases (r : Rep (tx X) G x _) with
      | obj h1 h2 h3 => exact ⟨_, _, _, _, rfl, h1, S.gh _ _ h2, RepF.lookN h3 hn⟩
    · cases h
  · rename_i l p
    split at h
    · rename_i c' fs e
      split at h
      · rename_i hn
        cases h
        have e2 := r.2 _ e
        subst e2
        obtain ⟨C, dx, vfs, h0, h1, h2⟩ := S.nd l p _ e
        exact ⟨_, _, _, _, rfl, h0, h1, ndF_lookN h2 hn⟩
      · cases h
    · cases h
  · cases h
section
variable {X : Cx} {Y : FC} {W : WX} {k : Nat} {C p g : Addr} {c f : Str} {fd : FuncData} {ps : List Str} {m : List Val → M Val} {e : Expr} {pos : Pos} {ma : En → M Val} {rd r1 r2 : Val → M Val} {cs : List Str}
theorem de_at (ha : DE X Y W e ma) (hr : RdA X W f rd) (hab : attributeBase e f X.env (eval e X.env) = eval e X.env := by rfl) : DE X Y W (.Attribute e f pos) (eAt rd ma) := by
  refine mkE (t := fun σ H Q => tE X Y W (stl ma) σ H fun x H1 => ∃ G AD Fr st v, SimS (tx X) G AD Fr st H1 ∧ VR (tx X) G AD st v x ∧ PostR All (tx X) W Fr σ G AD st (rd v st) (CE (tx X) Fr Q)) ⟨fun pins s σ H Q I h => ?_⟩ fun σ H Q G AD Fr env s S p => ?_
  · refine attr_of hab (thn (ha.stl.pe.run pins s σ H _ I h) fun u s1 ⟨x, H1, I1, rx, G, AD, Fr, st, v, S, r, p⟩ => ?_)
    obtain ⟨a, rfl, q⟩ := hr.run pins s1 σ H1 Q G AD Fr st v x I1 S r p
    obtain rfl : u = Value.ref a := rx
    exact q
  · refine stepE S p fun v s1 G1 AD1 H1 x h1 g1 e1 S1 r1 p1 => ?_
    exact ⟨G1, AD1, Fr, s1, v, S1.ss, r1.vr (stl_notf h1), p1⟩
theorem rd_fld (hF : FldF X cs f) : RdA X W f (fldV cs f) := ⟨fun pins s σ H Q G AD Fr st v x I S r p => by
  unfold fldV at p
  split at p
  · rename_i c fs
    split at p
    · rename_i hc
      split at p
      · rename_i d hd
        cases (r : Rep (tx X) G x _) with
        | obj h1 h2 h3 =>
          obtain ⟨C', k1, k2, k3⟩ := hF c hc
          rw [show (tx X).mg c = X.mg c from rfl, k1] at h1
          cases h1
          obtain ⟨v, hv, rv⟩ := RepF.look h3 hd
          exact ⟨_, rfl, getattr_ok I (S.gh _ _ h2) k2 k3 hv fun u s' I' ru => ⟨v, H, I', ru, p.done (Same.refl _) Ext.refl ⟨S, rv⟩⟩⟩
      · exact p.elim
    · exact p.elim
  · rename_i l q
    split at p
    · rename_i c fs hr
      split at p
      · rename_i hc
        have hx := r.2 _ hr
        subst hx
        obtain ⟨C, dx, vfs, h0, h1, h2⟩ := S.nd l q _ hr
        obtain ⟨C', k1, k2, k3⟩ := hF c hc
        rw [show (tx X).mg c = X.mg c from rfl, k1] at h0
        cases h0
        refine ⟨_, rfl, ?_⟩
        split at p
        · rename_i d hd
          obtain ⟨v, hv, rv⟩ := ndF_look h2 hd
          exact getattr_ok I h1 k2 k3 hv fun u s' I' ru => ⟨v, H, I', ru, p.done (Same.refl _) Ext.refl ⟨S, rv.2⟩⟩
        · rename_i hd
          obtain ⟨v, hv, rv⟩ := ndF_look h2 hd
          have ev : v = .ref (AD l (q ++ [f])) := rv.2
          subst ev
          exact getattr_ok I h1 k2 k3 hv fun u s' I' ru => ⟨_, H, I', ru, p.done (Same.refl _) Ext.refl ⟨S, r.1, fun _ _ => rfl⟩⟩
        · exact p.elim
      · exact p.elim
    · exact p.elim
  · exact p.elim⟩
def rdOr (c : Str) (r1 r2 : Val → M Val) : Val → M Val := fun v s => if clsV v s = some c then r1 v s else r2 v s
theorem rd_or (h1 : RdA X W f r1) (h2 : RdA X W f r2) : RdA X W f (rdOr c r1 r2) := ⟨fun pins s σ H Q G AD Fr st v x I S r p => by
  unfold rdOr at p
  split at p
  · exact h1.run pins s σ H Q G AD Fr st v x I S r p
  · exact h2.run pins s σ H Q G AD Fr st v x I S r p⟩
/-- a property of the class c -/
def prV (c : Str) (m : List Val → M Val) : Val → M Val := fun v s => if clsV v s = some c then (match m [v] s with
  | .ok v s2 => v.fin (s2.take s.length)
  | _ => .bad) else .bad
theorem passes_no : Passes (L2.CX X.prog X.w) X.nox (fun _ _ _ => False) := fun pins σ H s e s' I h => by
  obtain ⟨_, _, _, _, _, _, _, _, _, _, _, _, z⟩ := h
  exact z.elim
theorem rd_prop (hm : X.mg c = some (.ref C)) (hc : Cls X.K C) (hp : PropOf X.K C f p g) (F : FnD X.prog X.w X.K X.mg X.base k g fd ps m) (hr : Room (k + 1) X.A) (hb : Binds X.K fd ps []) (hl : ps.length = 1) : RdA X W f (prV c m) := ⟨fun pins s σ H Q G AD Fr st v x I S r q => by
  unfold prV at q
  split at q
  · rename_i e
    obtain ⟨a, C', dx, vfs, rfl, h1, h2⟩ := clsV_of S r e
    rw [hm] at h1
    cases h1
    refine ⟨a, rfl, getprop_ok (dvs := []) (E := fun _ _ _ => False) I h2 hc hp F hr hb .nil passes_no ?_⟩
    have q2 : PostR All (tx X) W Fr σ G AD st (match m [v] st with
      | .ok v s2 => v.fin (s2.take st.length)
      | .exc d s2 => .bad
      | .bad => .bad) (CE (tx X) Fr Q) := by
      cases e : m [v] st with
      | ok v2 s2 => rw [e] at q; exact q
      | exc d s2 => rw [e] at q; exact q.elim
      | bad => rw [e] at q; exact q.elim
    refine ⟨hl.symm, G, AD, Fr, st, [v], S, .cons r .nil, ?_⟩
    cases e : m [v] st with
    | bad => rw [e] at q2; exact q2
    | exc d s2 => rw [e] at q2; exact q2.elim
    | ok v2 s2 =>
      rw [e] at q
      intro G' AD' H' x g' e' r'
      have hv : ∀ l q, v2 ≠ .m l q := fun l q z => by subst z; exact q
      obtain ⟨AD2, k3, k4⟩ := r'.take st.length e'.len hv
      have p2 : PostR All (tx X) W Fr σ G AD st (.ok v2 (s2.take st.length)) (CE (tx X) Fr Q) := by
        cases v2 with
        | d y => exact q
        | f t => exact q
        | m l q' => exact absurd rfl (hv l q')
      exact p2.done g' (e'.take rfl k3) k4
  · exact q.elim⟩
end
end DL
end

set_option Elab.async false
set_option linter.all false
set_option maxRecDepth 100000
set_option maxHeartbeats 4000000
noncomputable section
namespace DL
open PySem PySem.Spec PyProof.Rows L2

/-! ## what follows the arguments -/
def argsM (ma : M (List Val)) (K : Nat → List Val → M Val) : M Val := fun s => match ma s with
  | .ok vs s1 => K s.length vs s1
  | .exc d s1 => .exc d (s1.take s.length)
  | .bad => .bad
def fcall (f : List Val → M Val) (n : Nat) (vs : List Val) : M Val := fun s1 => match f vs s1 with
  | .ok v s2 => v.fin (s2.take n)
  | .exc d s2 => .exc d (s2.take n)
  | .bad => .bad
section
variable {X : Cx} {Y : FC} {W : WX} {mv : En → M (List Val)} {G : Hp} {AD : AM} {Fr : Hp} {env : En} {s : Sto} {σ : L2.St} {H : Hp} {C : Val → Hp → AM → Sto → Hp → Prop}
theorem args_postK {K : Nat → List Val → M Val} {Q' : List V → Hp → Prop} (S : SimE (tx X) Y G AD Fr env s σ H) (p : PostR All (tx X) W Fr σ G AD s (argsM (mv env) K s) C)
    (h : ∀ vs s1 G1 AD1 H1 xs, mv env s = .ok vs s1 → Same G G1 → Ext (fun l => l < s.length) s AD s1 AD1 → SimE (tx X) Y G1 AD1 Fr env s1 σ H1 → VRs (tx X) G1 AD1 s1 vs xs → PostR All (tx X) W Fr σ G AD s (K s.length vs s1) C → Q' xs H1) : tR X Y W mv σ H Q' := by
  refine ⟨s.length, G, AD, Fr, env, s, S, S.bl, Nat.le_refl _, ?_⟩
  unfold argsM at p
  cases e : mv env s with
  | bad => rw [e] at p; exact p
  | exc d s' =>
    rw [e] at p
    exact fun G' AD' H' cls dx g x S' er => p G' AD' H' cls dx g (x.take rfl fun _ _ => rfl) (S'.take _) er
  | ok v s' =>
    rw [e] at p
    exact fun G' AD' H' g x xs r rs => h v s' G' AD' H' xs e g x ⟨r, S.en.monoQ g x fun l hl => Nat.lt_of_lt_of_le hl S.bl, Nat.le_trans S.bl x.len⟩ rs p
end
/-! ## methods -/
/-- o.m(..) by the class of o -/
def eMeth (m : Str) (ms : List (Str × (List Val → M Val))) (mo : En → M Val) (ma : En → M (List Val)) : En → M Val := fun env => bnd (stl mo env) fun v s => match clsM m v s with
  | some c => match ms.lookup c with
    | some f => argsM (ma env) (fun n vs => fcall f n (v :: vs)) s
    | none => .bad
  | none => .bad
structure MethF (X : Cx) (W : WX) (c m : Str) (n : Nat) (f : List Val → M Val) : Prop where
  ex : ∃ C g, X.mg c = some (.ref C) ∧ Cls X.K C ∧ Meth X.K C m g ∧ Cal X X.A W (.ref g) (n + 1) f
inductive MethFs (X : Cx) (W : WX) (m : Str) (n : Nat) : List (Str × (List Val → M Val)) → Prop
  | nil : MethFs X W m n []
  | cons {c : Str} {f : List Val → M Val} {r : List (Str × (List Val → M Val))} : MethF X W c m n f → MethFs X W m n r → MethFs X W m n ((c, f) :: r)
theorem MethFs.get {X : Cx} {W : WX} {m c : Str} {n : Nat} {f : List Val → M Val} : ∀ {ms : List (Str × (List Val → M Val))}, MethFs X W m n ms → ms.lookup c = some f → MethF X W c m n f
  | _, .nil, h => by cases h
  | _, .cons (c := c') r t, h => by
    rw [List.lookup_cons] at h
    cases e : c == c' with
    | true => rw [e] at h; cases h; rw [beq_iff_eq.mp e]; exact r
    | false => rw [e] at h; exact t.get h
section
variable {X : Cx} {Y : FC} {W : WX} {n : Nat} {m : Str} {o e : Expr} {es : List Expr} {mo : En → M Val} {mv : En → M (List Val)} {ms : List (Str × (List Val → M Val))} {pos apos : Pos}
/-- what a method call asks at its receiver -/
def tMth (X : Cx) (W : WX) (m : Str) (n : Nat) (σ : L2.St) (Q : VK) (t : Hp → (List V → Hp → Prop) → Prop) : VK := fun x H1 => ∃ a C dx vfs g f, x = .ref a ∧ H1 a = some (.ins C dx vfs) ∧ Cls X.K C ∧ Meth X.K C m g ∧ vfs.lookup m = none ∧ Cal X X.A W (.ref g) (n + 1) f ∧
  t H1 fun vs H2 => spD (tx X) (n + 1) f (x :: vs) H2 Q (WE W σ)
theorem meth_post {G : Hp} {AD : AM} {Fr : Hp} {env : En} {s : Sto} {σ : L2.St} {H : Hp} {Q : VK} (hl : ∀ env s vs s', mv env s = .ok vs s' → vs.length = n) (S : SimE (tx X) Y G AD Fr env s σ H) (hm : MethFs X W m n ms) (ho : DE X Y W o mo) (p : PostR All (tx X) W Fr σ G AD s (eMeth m ms mo mv env s) (CE (tx X) Fr Q)) :
    tE X Y W (stl mo) σ H (tMth X W m n σ Q fun H1 Q' => tR X Y W mv σ H1 Q') := by
  refine stepE S p fun v s1 G1 AD1 H1 x h1 g1 e1 S1 r1 p1 => ?_
  have r2 := r1.vr (stl_notf h1)
  cases ec : clsM m v s1 with
  | none => rw [ec] at p1; exact p1.elim
  | some c =>
    rw [ec] at p1
    cases ef : ms.lookup c with
    | none => dsimp only at p1; rw [ef] at p1; exact p1.elim
    | some f =>
      dsimp only at p1; rw [ef] at p1
      obtain ⟨a, C, dx, vfs, rfl, k1, k2, k3⟩ := clsM_of S1.ss r2 ec
      obtain ⟨C', g, j1, j2, j3, j4⟩ := (hm.get ef).ex
      rw [k1] at j1
      cases j1
      refine ⟨a, C, dx, vfs, g, f, rfl, k2, j2, j3, k3, j4, ?_⟩
      refine args_postK (K := fun n vs => fcall f n (v :: vs)) S1 p1 fun vs s2 G2 AD2 H2 xs h2 g2 e2 S2 rs p2 => ?_
      exact call_post (Y := Y) (env := env) (vs := v :: vs) (by rw [List.length_cons, ← rs.len, hl _ _ _ _ h2]) p2 g2 e2 S2.ss (.cons (r2.monoQ g2 e2) rs)
theorem de_meth {pl : Sem Bool} (ho : DE X Y W o mo) (ha : DR X Y W (e :: es) mv) (hm : MethFs X W m n ms) (hn : (e :: es).length = n := by rfl)
    (hst : starEach (e :: es) X.env = (false, eval e X.env) :: starEach es X.env := by rfl) (hpl : (backTo pos (starEach es X.env)).any (·.1) = false := by rfl)
    (ht : eval (.Call (.Attribute o m apos) (e :: es) [] pos) X.env = (do
      let ov ← eval o X.env
      standAt apos.atName
      let (f, first) ← holding [ov] (getMethod ov m pl)
      callWith pos f first (backTo pos (starEach (e :: es) X.env)) (backToKw pos (keywordEach [] X.env))) := by rfl) : DE X Y W (.Call (.Attribute o m apos) (e :: es) [] pos) (eMeth m ms mo mv) := by
  refine mkE (t := fun σ H Q => tE X Y W (stl mo) σ H (tMth X W m n σ Q fun H1 Q' => tR X Y W mv σ H1 Q')) ⟨fun pins s σ H Q I h => ?_⟩ fun σ H Q G AD Fr env s S p => ?_
  · refine PySem.W.methodCall_KW (pl := pl) (thn (ho.stl.pe.run pins s σ H _ I h) fun u s1 ⟨x, H1, I1, rx, a, C, dx, vfs, g, f, ex, ea, c, hm, l, hc, q⟩ => ?_) ht
    subst ex
    obtain rfl : u = Value.ref a := rx
    refine getmeth_ok I1 ea c hm l ?_
    refine PySem.W.callWith_K (first := [.ref a]) (h₀ := X.base) I.ok.mod.kin hm.kp (thn (ha.pa.run pos pins s1 σ H1 _ I1 q) fun us s2 ⟨vs, H2, I2, r, q2⟩ => ⟨I2.kIn, ?_⟩) hst hpl
    exact hc.run pins s2 σ H2 Q (.ref a :: us) (.ref a :: vs) I2 (.cons rfl r) q2
  · exact meth_post (fun env s vs s' h => (ha.ln env s vs s' h).trans hn) S hm ho p
theorem de_meth0 {pl : Sem Bool} (ho : DE X Y W o mo) (hm : MethFs X W m 0 ms)
    (ht : eval (.Call (.Attribute o m apos) [] [] pos) X.env = (do
      let ov ← eval o X.env
      standAt apos.atName
      let (f, first) ← holding [ov] (getMethod ov m pl)
      callWith pos f first (backTo pos (starEach [] X.env)) (backToKw pos (keywordEach [] X.env))) := by rfl) : DE X Y W (.Call (.Attribute o m apos) [] [] pos) (eMeth m ms mo rNil) := by
  refine mkE (t := fun σ H Q => tE X Y W (stl mo) σ H (tMth X W m 0 σ Q fun H1 Q' => Q' [] H1)) ⟨fun pins s σ H Q I h => ?_⟩ fun σ H Q G AD Fr env s S p => ?_
  · refine PySem.W.methodCall_KW (pl := pl) (thn (ho.stl.pe.run pins s σ H _ I h) fun u s1 ⟨x, H1, I1, rx, a, C, dx, vfs, g, f, ex, ea, c, hm, l, hc, q⟩ => ?_) ht
    subst ex
    obtain rfl : u = Value.ref a := rx
    refine getmeth_ok I1 ea c hm l ?_
    exact PySem.W.callWith_K0 (first := [.ref a]) I1.kIn hm.kp (hc.run pins s1 σ H1 Q [.ref a] [.ref a] I1 (.cons rfl .nil) q)
  · refine stepE S p fun v s1 G1 AD1 H1 x h1 g1 e1 S1 r1 p1 => ?_
    have r2 := r1.vr (stl_notf h1)
    cases ec : clsM m v s1 with
    | none => rw [ec] at p1; exact p1.elim
    | some c =>
      rw [ec] at p1
      cases ef : ms.lookup c with
      | none => dsimp only at p1; rw [ef] at p1; exact p1.elim
      | some f =>
        dsimp only at p1; rw [ef] at p1
        obtain ⟨a, C, dx, vfs, rfl, k1, k2, k3⟩ := clsM_of S1.ss r2 ec
        obtain ⟨C', g, j1, j2, j3, j4⟩ := (hm.get ef).ex
        rw [k1] at j1
        cases j1
        refine ⟨a, C, dx, vfs, g, f, rfl, k2, j2, j3, k3, j4, ?_⟩
        exact call_post (Y := Y) (env := env) (vs := [v]) (n := 1) rfl p1 (Same.refl _) Ext.refl S1.ss (.cons r2 .nil)
end

/-! ## a new instance -/
def mkI (c : Str) (f : List Val → M Val) (n : Nat) (vs : List Val) : M Val := fun s1 => match f (.m s1.length [] :: vs) (s1 ++ [some [([], .ins c [])]]) with
  | .ok (.d .non) s2 => match s2[s1.length]? with
    | some (some t) => .ok (.f t) (s2.take n)
    | _ => .bad
  | .exc d s2 => .exc d (s2.take n)
  | _ => .bad
def eMake (c : Str) (f : List Val → M Val) (ma : En → M (List Val)) : En → M Val := fun env => argsM (ma env) (mkI c f)
section
variable {X : Cx} {Y : FC} {W : WX} {n k : Nat} {c x : Str} {C f : Addr} {fd : FuncData} {ps : List Str} {m : List Val → M Val} {e : Expr} {es : List Expr} {mv : En → M (List Val)} {p pos : Pos}
def tMk (X : Cx) (W : WX) (C : Addr) (n : Nat) (m : List Val → M Val) (σ : L2.St) (Q : VK) : List V → Hp → Prop := fun vs H1 => ∀ x dx, H1 x = none → H1 dx = none → dx ≠ x →
  spD (tx X) n m (.ref x :: vs) (upd (upd H1 dx (.own x)) x (.ins C dx [])) (fun v H2 => v = .non ∧ Q (.ref x) H2) (WE W σ)
theorem make_run {pins : List (Addr × Obj)} {σ : L2.St} {H : Hp} {s : Shared} {Q : VK} {us : List Value} {vs : List V} (Mq : Mk X.K C f) (F : FnD X.prog X.w X.K X.mg X.base k f fd ps m) (hr : Room (k + 1) X.A) (hb : Binds X.K fd ps []) (tk : Takes X W) (I : Inv X pins σ H s) (r : Vals vs us)
    (h : tMk X W C ps.length m σ Q vs H) : wpAny (model X.prog X.w) X.A (call (.ref C) us) (EP X pins σ Q) X.xe s := by
  have hq := h (s.heap.objs.size + 1) s.heap.objs.size (I.hok.fresh (Nat.le_succ _)) (I.hok.fresh (Nat.le_refl _)) (Nat.ne_of_lt (Nat.lt_succ_self _))
  have I2 := Inv.made (C := C) I
  have r2 : Vals (V.ref (s.heap.objs.size + 1) :: vs) (Value.ref (s.heap.objs.size + 1) :: us) := .cons rfl r
  have hl : (Value.ref (s.heap.objs.size + 1) :: us ++ []).length = ps.length := by
    have e := r2.length
    rw [F.len _ _ _ _ hq] at e
    rw [List.append_nil]
    exact e.symm
  have hb2 := hb _ (Value.ref (s.heap.objs.size + 1) :: us) I2.kIn hl
  rw [List.append_nil] at hb2
  refine wpAny_call (make_map (f := f) I.kIn Mq.makes Mq.init (beq_iff_eq.mp Mq.fn) (codeAny_mono (F.run _ X.stack _ _ ⟨Value.ref (s.heap.objs.size + 1) :: us, []⟩ (Value.ref (s.heap.objs.size + 1) :: us) _ _ (WE W σ) (hr.make C us [])
    (I2.env0.make C us []) hb2 r2 hq) fun r s' hq' => ?_))
  cases r with
  | error e => exact passAt tk σ pins _ _ e s' I2 hq'
  | ok fl =>
    cases fl with
    | ret u =>
      obtain ⟨v, H', I3, rv, ev, q3⟩ := I2.after hq'
      subst ev
      exact ⟨rv, ⟨V.ref (s.heap.objs.size + 1), H', I3, rfl, q3⟩⟩
    | next => exact False.elim hq'
    | brk => exact False.elim hq'
    | cont => exact False.elim hq'
theorem make_post {G : Hp} {AD : AM} {Fr : Hp} {env : En} {s : Sto} {σ : L2.St} {H : Hp} {Q : VK} {T : TX} {W : WX} {s1 : Sto} {G1 : Hp} {AD1 : AM} {H1 : Hp} {vs : List Val} {xs : List V} (hc : T.mg c = some (.ref C)) (hn : xs.length + 1 = n)
    (p : PostR All T W Fr σ G AD s (mkI c m s.length vs s1) (CE T Fr Q)) (g : Same G G1) (e : Ext (fun l => l < s.length) s AD s1 AD1) (S : SimS T G1 AD1 Fr s1 H1) (r : VRs T G1 AD1 s1 vs xs) (x dx : Addr) (hx : H1 x = none) (hd : H1 dx = none) (hne : dx ≠ x) :
    spD T n m (.ref x :: xs) (upd (upd H1 dx (.own x)) x (.ins C dx [])) (fun v H2 => v = .non ∧ Q (.ref x) H2) (WE W σ) := by
  have S2 : SimS T G1 AD1 Fr s1 (upd H1 dx (.own x)) := S.laid hd
  have hx2 : upd H1 dx (.own x) x = none := by rw [upd_ne (Ne.symm hne)]; exact hx
  have S3 := S2.push1 (u := .ins C dx []) (ob := .ins c []) hx2 ⟨C, dx, [], hc, by rw [upd_same], .nil⟩
  have e3 : Ext (fun l => l < s1.length) s1 AD1 (s1 ++ [some [([], O.ins c [])]]) (adPut AD1 s1.length fun _ => x) := ⟨by rw [List.length_append]; omega, fun l q o hl h => ⟨⟨o, by rw [res_append (by omega)] at h; exact h⟩, by rw [adPut_ne (by omega)]⟩⟩
  have rs : ∀ {vs : List Val} {xs : List V}, VRs T G1 AD1 s1 vs xs → VRs T G1 (adPut AD1 s1.length fun _ => x) (s1 ++ [some [([], O.ins c [])]]) vs xs := fun h => by
    induction h with
    | nil => exact .nil
    | cons r _ ih => exact .cons (r.monoQ (Same.refl _) e3) ih
  have hll : s.length ≤ s1.length := e.len
  refine ⟨by rw [List.length_cons]; exact hn, G1, _, Fr, _, .m s1.length [] :: vs, S3, .cons ⟨by rw [List.length_append, List.length_singleton]; omega, fun _ _ => by rw [adPut_same]⟩ (rs r), ?_⟩
  unfold mkI at p
  cases hr : m (.m s1.length [] :: vs) (s1 ++ [some [([], .ins c [])]]) with
  | bad => rw [hr] at p; exact p
  | exc d s2 =>
    rw [hr] at p
    intro G' AD' H' cls dx g' e' S' er
    have e4 : Ext (fun l => l < s.length) s1 AD1 s2 AD' := (e3.mono fun l hl => by omega).trans (e'.mono fun l hl => by rw [List.length_append]; omega)
    exact p G' AD' H' cls dx (g.trans g') ((e.trans e4).take rfl fun _ _ => rfl) (S'.take _) er
  | ok v s2 =>
    rw [hr] at p
    match v, p with
    | .d .non, p =>
      intro G' AD' H' y g' e' r'
      have e4 : Ext (fun l => l < s.length) s1 AD1 s2 AD' := (e3.mono fun l hl => by omega).trans (e'.mono fun l hl => by rw [List.length_append]; omega)
      obtain ⟨S', ry⟩ := r'
      have ry' : Rep T G' y .non := ry
      cases ry'
      refine ⟨rfl, ?_⟩
      dsimp only at p
      split at p
      · rename_i t ht
        have hlt : s1.length < s2.length := (List.getElem?_eq_some_iff.mp ht).1
        obtain ⟨o, ho⟩ := S'.rt _ t ht
        have hres : res s2 s1.length [] = some o := by unfold res; rw [ht]; exact ho
        have hA : AD' s1.length [] = x := by
          have := (e'.old s1.length [] o (by rw [List.length_append, List.length_singleton]; omega) hres).2
          rw [this, adPut_same]
        have hT : s2.take (s1.length + 1) = s2.take s1.length ++ [some t] := by
          rw [List.take_add_one, ht]; rfl
        have S5 : SimS T G' AD' Fr (s2.take s1.length ++ [some t]) H' := by rw [← hT]; exact S'.take _
        have hlen : (s2.take s1.length).length = s1.length := by rw [List.length_take]; omega
        have S6 := S5.down s.length (by rw [hlen]; exact hll)
        rw [List.take_take, Nat.min_eq_left hll, hlen] at S6
        refine p.done (g.trans g') ((e.trans e4).take rfl fun l hl => adPut_ne (by omega)) ⟨S6, ?_⟩
        rw [List.length_take, Nat.min_eq_left (by omega)]
        rw [← hA]
        exact congrArg V.ref (congrFun (adPut_same (AD := AD')).symm [])
      · exact p.elim
theorem de_make (Mq : Mk X.K C f) (F : FnD X.prog X.w X.K X.mg X.base k f fd ps m) (hr : Room (k + 1) X.A) (hg : Gl X c) (hm : X.mg c = some (.ref C)) (hb : Binds X.K fd ps []) (tk : Takes X W) (ha : DR X Y W (e :: es) mv) (hn : (e :: es).length + 1 = ps.length := by rfl)
    (hdb : (c == ("__debug__" : Str)) = false := by decide) (he : starEach (e :: es) X.env = (false, eval e X.env) :: starEach es X.env := by rfl) (hpl : (backTo pos (starEach es X.env)).any (·.1) = false := by rfl) : DE X Y W (.Call (.Name c p) (e :: es) [] pos) (eMake c m mv) := by
  refine mkE (t := fun σ H Q => tR X Y W mv σ H (tMk X W C ps.length m σ Q)) ⟨fun pins s σ H Q I h => ?_⟩ fun σ H Q G AD Fr env s S p => ?_
  · refine wpAny_Call_Name_kw (ld_glob I hg hm ?_ hdb)
    refine PySem.W.callWith_K (h₀ := X.base) I.ok.mod.kin Mq.kp (thn (ha.pa.run pos pins s σ H _ I h) fun us s1 ⟨vs, H1, I1, r, q⟩ => ⟨I1.kIn, make_run Mq F hr hb tk I1 r q⟩) he hpl
  · exact args_postK S p fun vs s1 G1 AD1 H1 xs h1 g1 e1 S1 r1 q => make_post (G := G) (AD := AD) (s := s) (env := env) (H := H) hm (by rw [← r1.len, ha.ln _ _ _ _ h1, hn]) q g1 e1 S1.ss r1
end
end DL
end

set_option Elab.async false
set_option linter.all false
set_option maxRecDepth 100000
set_option maxHeartbeats 4000000
namespace PySem.W
open PySem PySem.Calls PyProof.Rows
section
variable {prog : Program} {w : World} {M : Model} {A : Around} {E : Value → Shared → Prop} {s : Shared} {K : Frag} {x y C L f : Addr} {h₀ : Heap} {m : Str → Option Value} {ox oy : Obj} {od od' : Option Obj} {nm T : String}
/-- two instances of one class: its own operator -/
theorem dl_binSame {op : Operator} {Q : Value → Shared → Prop} (X₀ : K.In s.heap) (I : InstAt s.heap x ox C od) (J : InstAt s.heap y oy C od') (hc : selfFirst K C = true)
    (hs : findIn K (.ref C) (PySem.dunder op.info.2) = some (some (.ref f))) (hf : isFn K (.ref f) = true)
    (h : wpAny (model prog w) A (call (.ref f) [.ref x, .ref y]) (CmpBack Q) E s) : wpAny (model prog w) A (binaryOp op (.ref x) (.ref y)) Q E s := by
  obtain ⟨cd, rest, hcd, hm⟩ := ksp_first hc
  rcases hi : op.info with ⟨sym, nm'⟩
  rw [hi] at hs
  dsimp only at hs
  have one := ksp_try X₀ I hs hf h
  obtain ⟨hh, g, d, tt, os⟩ := s
  have L1 : Looks (model prog w) hh (typeOf (.ref x)) (.ref C) := I.type
  have L2 : Looks (model prog w) hh (typeOf (.ref y)) (.ref C) := J.type
  have L3 : Looks (model prog w) hh (fillsNumberSlot (.ref C) nm') true := fills_K X₀ hcd hm hs
  simp only [binaryOp, hi]
  refine wpAny_holding (wpAny_bind ?_)
  unfold binaryOp1
  refine wpAny_bind (L1.at (wpAny_bind (L2.at (wpAny_bind (L3.at ?_)))))
  simp only [beq_self_eq_true, if_true]
  ksp_lk
  refine wpAny_mono one (fun r s' hr' => ?_) fun _ _ e => e
  obtain ⟨v, rfl, hq⟩ := hr'
  ksp_lk
  exact hq
end
end PySem.W
noncomputable section
namespace DL
open PySem PySem.Spec PyProof.Rows L2

/-! ## operations that may call -/
structure OpE (X : Cx) (W : WX) (f : Value → Value → Sem Value) (op : Val → Val → M Val) : Prop where
  run : ∀ (pins : List (Addr × Obj)) (s : Shared) (σ : L2.St) (H : Hp) (Q : VK) (G : Hp) (AD : AM) (Fr : Hp) (st : Sto) (vx vy : Val) (x y : V) (u v : Value), Inv X pins σ H s → RelV x u → RelV y v → SimS (tx X) G AD Fr st H → VR (tx X) G AD st vx x → VR (tx X) G AD st vy y → PostR All (tx X) W Fr σ G AD st (op vx vy st) (CE (tx X) Fr Q) →
    wpAny (model X.prog X.w) X.A (f u v) (EP X pins σ Q) X.xe s
theorem OpD.toE {X : Cx} {W : WX} {f : Value → Value → Sem Value} {op : Val → Val → M Val} (O : OpD X f op) : OpE X W f op := ⟨fun pins s σ H Q G AD Fr st vx vy x y u v I rx ry S r1 r2 p => by
  refine O.run pins s σ H x y u v Q I rx ry ?_
  cases e : op vx vy st with
  | bad => rw [e] at p; exact p.elim
  | exc d s' => exact absurd e (O.nx _ _ _ _ _)
  | ok z s' => rw [e] at p; exact ⟨G, AD, Fr, st, vx, vy, z, s', S, r1, r2, e, fun G' AD' H' z g e r => p.done g e r⟩⟩
def opOr (p : Val → Val → Sto → Bool) (a b : Val → Val → M Val) : Val → Val → M Val := fun x y s => if p x y s = true then a x y s else b x y s
section
variable {X : Cx} {Y : FC} {W : WX} {a b : Expr} {ma mb : En → M Val} {pos : Pos}
theorem oe_or {f : Value → Value → Sem Value} {p : Val → Val → Sto → Bool} {o1 o2 : Val → Val → M Val} (h1 : OpE X W f o1) (h2 : OpE X W f o2) : OpE X W f (opOr p o1 o2) := ⟨fun pins s σ H Q G AD Fr st vx vy x y u v I rx ry S r1 r2 q => by
  unfold opOr at q
  split at q
  · exact h1.run pins s σ H Q G AD Fr st vx vy x y u v I rx ry S r1 r2 q
  · exact h2.run pins s σ H Q G AD Fr st vx vy x y u v I rx ry S r1 r2 q⟩
def tE2 (X : Cx) (W : WX) (op : Val → Val → M Val) (σ : L2.St) (Q : VK) (x y : V) (H : Hp) : Prop := ∃ G AD Fr st vx vy, SimS (tx X) G AD Fr st H ∧ VR (tx X) G AD st vx x ∧ VR (tx X) G AD st vy y ∧ PostR All (tx X) W Fr σ G AD st (op vx vy st) (CE (tx X) Fr Q)
theorem opE_post {o : Val → Val → M Val} {σ : L2.St} {H : Hp} {Q : VK} {G : Hp} {AD : AM} {Fr : Hp} {env : En} {s : Sto} (S : SimE (tx X) Y G AD Fr env s σ H) (p : PostR All (tx X) W Fr σ G AD s (eOp2 o ma mb env s) (CE (tx X) Fr Q)) :
    tE X Y W (stl ma) σ H fun x H1 => tE X Y W (stl mb) σ H1 fun y H2 => tE2 X W o σ Q x y H2 := by
  refine stepE (k := fun x => bnd (stl mb env) fun y => o x y) S p fun v s1 G1 AD1 H1 x h1 g1 e1 S1 r1 p1 => ?_
  refine stepE (k := fun y => o v y) S1 p1 fun u s2 G2 AD2 H2 y h2 g2 e2 S2 r2 p2 => ?_
  exact ⟨G2, AD2, Fr, s2, v, u, S2.ss, (r1.vr (stl_notf h1)).mono g2 e2, r2.vr (stl_notf h2), p2⟩
theorem de_opE {op : Operator} {o : Val → Val → M Val} (O : OpE X W (binaryOp op) o) (ha : DE X Y W a ma) (hb : DE X Y W b mb) : DE X Y W (.BinOp a op b pos) (eOp2 o ma mb) := by
  refine mkE (t := fun σ H Q => tE X Y W (stl ma) σ H fun x H1 => tE X Y W (stl mb) σ H1 fun y H2 => tE2 X W o σ Q x y H2) ⟨fun pins s σ H Q I h => ?_⟩ fun σ H Q G AD Fr env s S p => opE_post S p
  exact wpAny_BinOp (binT ha.stl.pe hb.stl.pe I h fun v u s2 x y H2 I2 rx ry ⟨G, AD, Fr, st, vx, vy, S, r1, r2, p⟩ => O.run pins s2 σ H2 Q G AD Fr st vx vy x y v u I2 rx ry S r1 r2 p)
theorem de_cmpE {op : CmpOp} {o : Val → Val → M Val} (O : OpE X W (compareOp op) o) (ha : DE X Y W a ma) (hb : DE X Y W b mb) (hm : behindInMarks op b = false) : DE X Y W (.Compare a [op] [b] pos) (eOp2 o ma mb) := by
  refine mkE (t := fun σ H Q => tE X Y W (stl ma) σ H fun x H1 => tE X Y W (stl mb) σ H1 fun y H2 => tE2 X W o σ Q x y H2) ⟨fun pins s σ H Q I h => ?_⟩ fun σ H Q G AD Fr env s S p => opE_post S p
  exact wpAny_Compare1 (binT ha.stl.pe hb.stl.pe I h fun v u s2 x y H2 I2 rx ry ⟨G, AD, Fr, st, vx, vy, S, r1, r2, p⟩ => O.run pins s2 σ H2 Q G AD Fr st vx vy x y v u I2 rx ry S r1 r2 p) hm
end
/-! ### operators of own classes -/
theorem cmpBack_of {X : Cx} {pins : List (Addr × Obj)} {σ : L2.St} {Q : VK} {u : Value} {s' : Shared} (h : EP X pins σ Q u s') : PySem.W.CmpBack (EP X pins σ Q) u s' := by
  cases u with
  | notImplemented =>
    obtain ⟨v, H', I, r, q⟩ := h
    cases v with
    | non => cases r
    | bl b => cases r
    | int i => obtain ⟨t, r⟩ := r; cases r
    | str i => obtain ⟨t, r⟩ := r; cases r
    | byt i => obtain ⟨t, r⟩ := r; cases r
    | flt i => obtain ⟨t, r⟩ := r; cases r
    | ref a => cases r
    | ty n => cases r
  | _ => exact h
def ownS (c : Str) (f : List Val → M Val) : Val → Val → M Val := fun a b s => if clsV a s = some c ∧ clsV b s = some c then fcall f s.length [a, b] s else .bad
def ownI (c : Str) (f : List Val → M Val) : Val → Val → M Val := fun a b s => match b with
  | .d (.int _) => if clsV a s = some c then fcall f s.length [a, b] s else .bad
  | _ => .bad
structure OwnF (X : Cx) (W : WX) (nm : Str) (c : Str) (n : Nat) (m : List Val → M Val) (C f : Addr) : Prop where
  mg : X.mg c = some (.ref C)
  sf : PySem.W.selfFirst X.K C = true
  fi : PySem.W.findIn X.K (.ref C) nm = some (some (.ref f))
  fn : PySem.W.isFn X.K (.ref f) = true
  cal : Cal X X.A W (.ref f) n m
section
variable {X : Cx} {Y : FC} {W : WX} {c : Str} {m : List Val → M Val} {C f : Addr} {a : Expr} {ma : En → M Val} {pos : Pos}
theorem inst_at {pins : List (Addr × Obj)} {s : Shared} {σ : L2.St} {H : Hp} {a C dx : Addr} {fs : List (Str × V)} (I : Inv X pins σ H s) (h : H a = some (.ins C dx fs)) : ∃ od, PySem.W.InstAt s.heap a (PySem.W.instObj C dx) C (some od) := by
  obtain ⟨mA, O, _, _, _, _⟩ := ins_get I.hok h
  obtain ⟨od, J, _⟩ := O.look
  exact ⟨od, J⟩
theorem oe_ownS {op : Operator} (F : OwnF X W (PySem.dunder op.info.2) c 2 m C f) : OpE X W (binaryOp op) (ownS c m) := ⟨fun pins s σ H Q G AD Fr st vx vy x y u v I rx ry S r1 r2 q => by
  unfold ownS at q
  split at q
  · rename_i hc
    obtain ⟨a, C1, dx, vfs, rfl, h1, h2⟩ := clsV_of S r1 hc.1
    obtain ⟨b, C2, dy, wfs, rfl, k1, k2⟩ := clsV_of S r2 hc.2
    rw [F.mg] at h1 k1
    cases h1; cases k1
    cases rx; cases ry
    obtain ⟨od, J⟩ := inst_at I h2
    obtain ⟨od2, J2⟩ := inst_at I k2
    refine PySem.W.dl_binSame I.kIn J J2 F.sf F.fi F.fn (wpAny_mono (F.cal.run pins s σ H Q [.ref a, .ref b] [.ref a, .ref b] I (.cons rfl (.cons rfl .nil)) ?_) (fun r s' h => cmpBack_of h) fun _ _ z => z)
    exact call_post (Y := fc 0 0 []) (env := []) (vs := [vx, vy]) rfl q (Same.refl _) Ext.refl S (.cons r1 (.cons r2 .nil))
  · exact q.elim⟩
theorem oe_ownI {op : Operator} {fo ro rc : Option Value} (F : OwnF X W (PySem.dunder op.info.2) c 2 m C f) (hr : PySem.W.findIn X.K (.ref C) (dunderR op.info.2) = some rc) (hp : rc = none ∨ ∃ g : Addr, rc = some (.ref g))
    (h1 : PySem.W.findIn X.K (.type "int") (PySem.dunder op.info.2) = some fo) (h2 : PySem.W.findIn X.K (.type "int") (dunderR op.info.2) = some ro) (hsub : PySem.W.subIn X.K (.type "int") (.ref C) = some false) : OpE X W (binaryOp op) (ownI c m) := ⟨fun pins s σ H Q G AD Fr st vx vy x y u v I rx ry S r1 r2 q => by
  unfold ownI at q
  split at q
  · rename_i i
    split at q
    · rename_i hc
      obtain ⟨a, C1, dx, vfs, rfl, j1, j2⟩ := clsV_of S r1 hc
      rw [F.mg] at j1
      cases j1
      cases rx
      cases (r2 : Rep (tx X) G y (.int i))
      obtain ⟨t, rfl⟩ := ry
      obtain ⟨od, J⟩ := inst_at I j2
      obtain ⟨mm, fr⟩ := I.fr
      refine PySem.W.ksp_binT fr I.ok.mod.kin J rfl F.sf F.fi F.fn hr hp h1 h2 hsub (wpAny_mono (F.cal.run pins s σ H Q [.ref a, .int i t] [.ref a, .int i] I (.cons rfl (.cons ⟨t, rfl⟩ .nil)) ?_) (fun r s' h => cmpBack_of h) fun _ _ z => z)
      exact call_post (Y := fc 0 0 []) (env := []) (vs := [vx, .d (.int i)]) rfl q (Same.refl _) Ext.refl S (.cons r1 (.cons (show VR (tx X) G AD st (.d (.int i)) (.int i) from .int i) .nil))
    · exact q.elim
  · exact q.elim⟩
def eInv (c : Str) (f : List Val → M Val) (ma : En → M Val) : En → M Val := fun env => bnd (stl ma env) fun v s => if clsV v s = some c then fcall f s.length [v] s else .bad
theorem de_inv (F : OwnF X W "__invert__" c 1 m C f) (ha : DE X Y W a ma) : DE X Y W (.UnaryOp .Invert a pos) (eInv c m ma) := by
  refine mkE (t := fun σ H Q => tE X Y W (stl ma) σ H fun x H1 => ∃ G AD Fr st v, SimS (tx X) G AD Fr st H1 ∧ VR (tx X) G AD st v x ∧ PostR All (tx X) W Fr σ G AD st (if clsV v st = some c then fcall m st.length [v] st else .bad) (CE (tx X) Fr Q)) ⟨fun pins s σ H Q I h => ?_⟩ fun σ H Q G AD Fr env s S p => ?_
  · refine UnaryOp_ (thn (ha.stl.pe.run pins s σ H _ I h) fun u s1 ⟨x, H1, I1, rx, G, AD, Fr, st, v, S, r, p⟩ => ?_)
    split at p
    · rename_i hc
      obtain ⟨a, C1, dx, vfs, rfl, j1, j2⟩ := clsV_of S r hc
      rw [F.mg] at j1
      cases j1
      cases rx
      obtain ⟨od, J⟩ := inst_at I1 j2
      obtain ⟨mm, fr⟩ := I1.fr
      refine PySem.W.ksp_inv fr I1.ok.mod.kin J F.fi F.fn (F.cal.run pins s1 σ H1 Q [.ref a] [.ref a] I1 (.cons rfl .nil) ?_)
      exact call_post (Y := fc 0 0 []) (env := []) (vs := [v]) rfl p (Same.refl _) Ext.refl S (.cons r .nil)
    · exact p.elim
  · refine stepE S p fun v s1 G1 AD1 H1 x h1 g1 e1 S1 r1 p1 => ?_
    exact ⟨G1, AD1, Fr, s1, v, S1.ss, r1.vr (stl_notf h1), p1⟩
end
end DL
end

set_option Elab.async false
set_option linter.all false
set_option maxRecDepth 100000
set_option maxHeartbeats 4000000
noncomputable section
namespace DL
open PySem PySem.Spec PyProof.Rows L2

/-! ## built-in functions -/
def rBi (T : TX) (g : List Val → M Val) : List V → Hp → VK → Prop := fun xs H Q => ∃ G AD Fr s vs v s', SimS T G AD Fr s H ∧ VRs T G AD s vs xs ∧ g vs s = .ok v s' ∧ ∀ G' AD' H' z, Same G G' → Ext All s AD s' AD' → RV T G' AD' Fr s' H' v z → Q z H'
structure BiD (X : Cx) (u : Value) (g : List Val → M Val) : Prop where
  run : CallR X u (rBi (tx X) g)
  nx : ∀ vs s d s', g vs s ≠ .exc d s'
def eBi (g : List Val → M Val) (mv : En → M (List Val)) : En → M Val := fun env => bnd (mv env) g
def gOr (g h : List Val → M Val) : List Val → M Val := fun vs s => match g vs s with
  | .bad => h vs s
  | r => r
def oAlt (g h : Val → Val → M Val) : Val → Val → M Val := fun a b s => match g a b s with
  | .bad => h a b s
  | r => r
section
variable {X : Cx} {Y : FC} {W : WX} {u : Value} {g h : List Val → M Val} {x : Str} {p pos : Pos} {e : Expr} {es : List Expr} {mv : En → M (List Val)} {id T : String}
theorem bi_or (a : BiD X u g) (b : BiD X u h) : BiD X u (gOr g h) := by
  refine ⟨fun pins s σ H xs us Q I r ⟨G, AD, Fr, st, vs, v, s', S, rs, e, q⟩ => ?_, fun vs s d s' => ?_⟩
  · unfold gOr at e
    cases e1 : g vs st with
    | bad => rw [e1] at e; exact b.run pins s σ H xs us Q I r ⟨G, AD, Fr, st, vs, v, s', S, rs, e, q⟩
    | ok w s1 => rw [e1] at e; exact a.run pins s σ H xs us Q I r ⟨G, AD, Fr, st, vs, v, s', S, rs, e1.trans e, q⟩
    | exc d s1 => exact absurd e1 (a.nx _ _ _ _)
  · unfold gOr
    cases e1 : g vs s with
    | bad => exact b.nx _ _ _ _
    | ok w s1 => exact fun z => nomatch z
    | exc d' s1 => exact absurd e1 (a.nx _ _ _ _)
theorem od_alt {f : Value → Value → Sem Value} {g h : Val → Val → M Val} (a : OpD X f g) (b : OpD X f h) : OpD X f (oAlt g h) := by
  refine ⟨fun pins s σ H x y u w Q I r1 r2 ⟨G, AD, Fr, st, vx, vy, v, s', S, k1, k2, e, q⟩ => ?_, fun vx vy s d s' => ?_⟩
  · unfold oAlt at e
    cases e1 : g vx vy st with
    | bad => rw [e1] at e; exact b.run pins s σ H x y u w Q I r1 r2 ⟨G, AD, Fr, st, vx, vy, v, s', S, k1, k2, e, q⟩
    | ok z s1 => rw [e1] at e; exact a.run pins s σ H x y u w Q I r1 r2 ⟨G, AD, Fr, st, vx, vy, v, s', S, k1, k2, e1.trans e, q⟩
    | exc d s1 => exact absurd e1 (a.nx _ _ _ _ _)
  · unfold oAlt
    cases e1 : g vx vy s with
    | bad => exact b.nx _ _ _ _ _
    | ok w s1 => exact fun z => nomatch z
    | exc d' s1 => exact absurd e1 (a.nx _ _ _ _ _)
theorem bi_post {σ : L2.St} {H : Hp} {Q : VK} {G : Hp} {AD : AM} {Fr : Hp} {env : En} {s : Sto} (nx : ∀ vs s d s', g vs s ≠ .exc d s') (S : SimE (tx X) Y G AD Fr env s σ H) (p : PostR All (tx X) W Fr σ G AD s (eBi g mv env s) (CE (tx X) Fr Q)) :
    tV X Y W mv σ H fun xs H1 => rBi (tx X) g xs H1 Q := by
  refine stepV S p fun vs s1 G1 AD1 H1 xs h1 g1 e1 S1 rs p1 => ?_
  cases hr : g vs s1 with
  | bad => rw [hr] at p1; exact p1.elim
  | exc d s2 => exact absurd hr (nx _ _ _ _)
  | ok v s2 => rw [hr] at p1; exact ⟨G1, AD1, Fr, s1, vs, v, s2, S1.ss, rs, hr, fun G' AD' H' z g e r => p1.done g e r⟩
theorem de_bi (B : BiD X (.builtin id) g) (hg : Gl X x) (hm : X.mg x = none) (hv : bootBuiltins x = some (.builtin id)) (ha : DV X Y W (e :: es) mv) (hn : x ≠ "__name__" := by decide) (hdb : (x == ("__debug__" : Str)) = false := by decide)
    (he : starEach (e :: es) X.env = (false, eval e X.env) :: starEach es X.env := by rfl) (hpl : (backTo pos (starEach es X.env)).any (·.1) = false := by rfl) : DE X Y W (.Call (.Name x p) (e :: es) [] pos) (eBi g mv) :=
  mkE (pe_callB B.run hg hm hv ha.pa hn hdb he hpl) fun σ H Q G AD Fr env s S p => bi_post B.nx S p
theorem de_bty (B : BiD X (.type T) g) (hg : Gl X x) (hm : X.mg x = none) (hv : bootBuiltins x = some (.type T)) (ha : DV X Y W (e :: es) mv) (hn : x ≠ "__name__" := by decide) (hdb : (x == ("__debug__" : Str)) = false := by decide)
    (he : starEach (e :: es) X.env = (false, eval e X.env) :: starEach es X.env := by rfl) (hpl : (backTo pos (starEach es X.env)).any (·.1) = false := by rfl) : DE X Y W (.Call (.Name x p) (e :: es) [] pos) (eBi g mv) :=
  mkE (pe_callTy B.run hg hm hv ha.pa hn hdb he hpl) fun σ H Q G AD Fr env s S p => bi_post B.nx S p
end
/-! ### one by one -/
def seqOf (s : Sto) : Val → Option (List D)
  | .d (.tup xs) => some xs
  | .d (.scr xs) => some xs
  | v => lstOf s v
theorem seq_at {T : TX} {G : Hp} {AD : AM} {Fr : Hp} {s : Sto} {H : Hp} {v : Val} {x : V} (S : SimS T G AD Fr s H) (r : VR T G AD s v x) {xs : List D} (h : seqOf s v = some xs) : ∃ a vs, x = .ref a ∧ (SqL T.K H a vs ∨ SqT T.K H a vs) ∧ RepL T G vs xs := by
  unfold seqOf at h
  split at h
  · cases h
    cases (show Rep T G x (.tup xs) from r) with
    | tup h1 h2 => exact ⟨_, _, rfl, .inr (sameT S.gh h1), h2⟩
  · cases h
    cases (show Rep T G x (.scr xs) from r) with
    | scr h1 h2 => exact ⟨_, _, rfl, .inl (Same.seq S.gh h1), h2⟩
  · obtain ⟨a, vs, h1, h2, h3⟩ := lst_at S r h
    exact ⟨a, vs, h1, .inl (SqL.of h2), h3⟩
def intsOf : List D → Option (List Int)
  | [] => some []
  | .int i :: r => (intsOf r).map (i :: ·)
  | _ => none
def blsOf : List D → Option (List Bool)
  | [] => some []
  | .bl i :: r => (blsOf r).map (i :: ·)
  | _ => none
def strsOf : List D → Option (List Str)
  | [] => some []
  | .str i :: r => (strsOf r).map (i :: ·)
  | _ => none
theorem intsOf_rep {T : TX} {G : Hp} : ∀ {vs : List V} {xs : List D} {ns : List Int}, RepL T G vs xs → intsOf xs = some ns → vs = ns.map .int
  | _, _, _, .nil, h => by cases h; rfl
  | _, _, _, .cons (d := d) r t, h => by
    cases d with
    | int i =>
      simp only [intsOf, Option.map_eq_some_iff] at h
      obtain ⟨m, h1, rfl⟩ := h
      cases r
      rw [intsOf_rep t h1]; rfl
    | _ => simp [intsOf] at h
theorem blsOf_rep {T : TX} {G : Hp} : ∀ {vs : List V} {xs : List D} {ns : List Bool}, RepL T G vs xs → blsOf xs = some ns → vs = ns.map .bl
  | _, _, _, .nil, h => by cases h; rfl
  | _, _, _, .cons (d := d) r t, h => by
    cases d with
    | bl i =>
      simp only [blsOf, Option.map_eq_some_iff] at h
      obtain ⟨m, h1, rfl⟩ := h
      cases r
      rw [blsOf_rep t h1]; rfl
    | _ => simp [blsOf] at h
theorem strsOf_rep {T : TX} {G : Hp} : ∀ {vs : List V} {xs : List D} {ns : List Str}, RepL T G vs xs → strsOf xs = some ns → vs = ns.map .str
  | _, _, _, .nil, h => by cases h; rfl
  | _, _, _, .cons (d := d) r t, h => by
    cases d with
    | str i =>
      simp only [strsOf, Option.map_eq_some_iff] at h
      obtain ⟨m, h1, rfl⟩ := h
      cases r
      rw [strsOf_rep t h1]; rfl
    | _ => simp [strsOf] at h
def maxI : List Int → Option Int
  | [] => none
  | i :: r => some (r.foldl max i)
def minI : List Int → Option Int
  | [] => none
  | i :: r => some (r.foldl min i)
theorem foldl_max : ∀ (r : List Int) (i : Int), (r.foldl max i = i ∨ r.foldl max i ∈ r) ∧ i ≤ r.foldl max i ∧ ∀ y ∈ r, y ≤ r.foldl max i
  | [], i => ⟨.inl rfl, Int.le_refl _, fun y h => by cases h⟩
  | j :: r, i => by
    obtain ⟨h1, h2, h3⟩ := foldl_max r (max i j)
    rw [List.foldl_cons]
    refine ⟨?_, by omega, fun y hy => ?_⟩
    · rcases h1 with h1 | h1
      · rcases Int.le_total i j with h | h
        · right; rw [h1]; rw [show max i j = j by omega]; exact List.mem_cons_self
        · left; rw [h1]; omega
      · right; exact List.mem_cons_of_mem _ h1
    · rcases List.mem_cons.mp hy with rfl | hy
      · omega
      · exact h3 y hy
theorem foldl_min : ∀ (r : List Int) (i : Int), (r.foldl min i = i ∨ r.foldl min i ∈ r) ∧ r.foldl min i ≤ i ∧ ∀ y ∈ r, r.foldl min i ≤ y
  | [], i => ⟨.inl rfl, Int.le_refl _, fun y h => by cases h⟩
  | j :: r, i => by
    obtain ⟨h1, h2, h3⟩ := foldl_min r (min i j)
    rw [List.foldl_cons]
    refine ⟨?_, by omega, fun y hy => ?_⟩
    · rcases h1 with h1 | h1
      · rcases Int.le_total i j with h | h
        · left; rw [h1]; omega
        · right; rw [h1]; rw [show min i j = j by omega]; exact List.mem_cons_self
      · right; exact List.mem_cons_of_mem _ h1
    · rcases List.mem_cons.mp hy with rfl | hy
      · omega
      · exact h3 y hy
def lenG : List Val → M Val := fun vs s => match vs with
  | [.d (.str z)] => if z.length ≤ sizeLine then .ok (.d (.int z.length)) s else .bad
  | [v] => match seqOf s v with
    | some xs => .ok (.d (.int xs.length)) s
    | none => .bad
  | _ => .bad
def absG : List Val → M Val := fun vs s => match vs with
  | [.d (.int i)] => .ok (.d (.int (if i < 0 then -i else i))) s
  | _ => .bad
def max2G : List Val → M Val := fun vs s => match vs with
  | [.d (.int i), .d (.int j)] => .ok (.d (.int (if j > i then j else i))) s
  | _ => .bad
def min2G : List Val → M Val := fun vs s => match vs with
  | [.d (.int i), .d (.int j)] => .ok (.d (.int (if j < i then j else i))) s
  | _ => .bad
def intG : List Val → M Val := fun vs s => match vs with
  | [.d (.int i)] => .ok (.d (.int i)) s
  | [.d (.bl k)] => .ok (.d (.int (if k then 1 else 0))) s
  | [.d (.str a)] => match PySem.intText? a with
    | some n => if a.length ≤ 640 then .ok (.d (.int n)) s else .bad
    | none => .bad
  | _ => .bad
def strG : List Val → M Val := fun vs s => match vs with
  | [.d (.int i)] => if i.natAbs.log2 < 1920 then .ok (.d (.str (toString i))) s else .bad
  | [.d (.str a)] => .ok (.d (.str a)) s
  | _ => .bad
def allG : List Val → M Val := fun vs s => match vs with
  | [v] => match (lstOf s v).bind blsOf with
    | some bs => .ok (.d (.bl (bs.all id))) s
    | none => .bad
  | _ => .bad
def anyG : List Val → M Val := fun vs s => match vs with
  | [v] => match (lstOf s v).bind blsOf with
    | some bs => .ok (.d (.bl (bs.any id))) s
    | none => .bad
  | _ => .bad
def sumG : List Val → M Val := fun vs s => match vs with
  | [v] => match (lstOf s v).bind intsOf with
    | some bs => .ok (.d (.int bs.sum)) s
    | none => .bad
  | _ => .bad
def max1G : List Val → M Val := fun vs s => match vs with
  | [v] => match ((lstOf s v).bind intsOf).bind maxI with
    | some m => .ok (.d (.int m)) s
    | none => .bad
  | _ => .bad
def min1G : List Val → M Val := fun vs s => match vs with
  | [v] => match ((lstOf s v).bind intsOf).bind minI with
    | some m => .ok (.d (.int m)) s
    | none => .bad
  | _ => .bad
def listG : List Val → M Val := fun vs s => match vs with
  | [v] => match seqOf s v with
    | some xs => .ok (.f [([], .lst xs)]) s
    | none => .bad
  | _ => .bad
def tupleG : List Val → M Val := fun vs s => match vs with
  | [v] => match seqOf s v with
    | some xs => .ok (.d (.tup xs)) s
    | none => .bad
  | _ => .bad
section
variable {X : Cx}
theorem bi_mk {u : Value} {g : List Val → M Val} (nx : ∀ vs s d s', g vs s ≠ .exc d s') (h : ∀ (pins : List (Addr × Obj)) (s : Shared) (σ : L2.St) (H : Hp) (us : List Value) (Q : VK) (G : Hp) (AD : AM) (Fr : Hp) (st : Sto) (vs : List Val) (xs : List V) (v : Val) (st' : Sto), Inv X pins σ H s → Vals xs us → SimS (tx X) G AD Fr st H → VRs (tx X) G AD st vs xs → g vs st = .ok v st' →
    (∀ G' AD' H' z, Same G G' → Ext All st AD st' AD' → RV (tx X) G' AD' Fr st' H' v z → Q z H') → wpAny (model X.prog X.w) X.A (call u us) (EP X pins σ Q) X.xe s) : BiD X u g :=
  ⟨fun pins s σ H xs us Q I r ⟨G, AD, Fr, st, vs, v, s', S, rs, e, q⟩ => h pins s σ H us Q G AD Fr st vs xs v s' I r S rs e q, nx⟩
theorem bi_len : BiD X (.builtin "len") lenG := bi_mk (g := lenG) (by intro vs s d s'; unfold lenG; (repeat' split) <;> exact fun z => nomatch z) fun pins s σ H us Q G AD Fr st vs xs v st' I rv S rs e q => by
  unfold lenG at e
  split at e
  · split at e
    · rename_i z hz
      cases e
      cases rs with
      | cons r t =>
        cases t
        cases (r : Rep (tx X) G _ (.str z))
        exact call_len pins s σ H _ us Q I rv ⟨_, _, rfl, ⟨hz, rfl⟩, q G AD H _ (Same.refl _) Ext.refl ⟨S, .int _⟩⟩
    · cases e
  · rename_i w _
    split at e
    · rename_i ys hs
      cases e
      cases rs with
      | cons r t =>
        cases t
        obtain ⟨a, ws, rfl, h1, h2⟩ := seq_at S r hs
        rw [← h2.len] at q
        refine call_len pins s σ H _ us Q I rv ⟨_, ws.length, rfl, ?_, q G AD H _ (Same.refl _) Ext.refl ⟨S, .int _⟩⟩
        rcases h1 with h1 | h1
        · exact .inl ⟨_, h1, rfl⟩
        · exact .inr ⟨_, h1, rfl⟩
    · cases e
  · cases e
theorem bi_abs : BiD X (.builtin "abs") absG := bi_mk (g := absG) (by intro vs s d s'; unfold absG; (repeat' split) <;> exact fun z => nomatch z) fun pins s σ H us Q G AD Fr st vs xs v st' I rv S rs e q => by
  unfold absG at e
  split at e
  · cases e
    cases rs with
    | cons r t =>
      cases t
      cases r
      exact call_abs pins s σ H _ us Q I rv ⟨_, rfl, q G AD H _ (Same.refl _) Ext.refl ⟨S, .int _⟩⟩
  · cases e
theorem bi_max2 (hc : X.calm = true) : BiD X (.builtin "max") max2G := bi_mk (g := max2G) (by intro vs s d s'; unfold max2G; (repeat' split) <;> exact fun z => nomatch z) fun pins s σ H us Q G AD Fr st vs xs v st' I rv S rs e q => by
  unfold max2G at e
  split at e
  · cases e
    cases rs with
    | cons r t =>
      cases t with
      | cons r2 t =>
        cases t
        cases r; cases r2
        exact call_max2 hc pins s σ H _ us Q I rv ⟨_, _, rfl, q G AD H _ (Same.refl _) Ext.refl ⟨S, .int _⟩⟩
  · cases e
theorem bi_min2 (hc : X.calm = true) : BiD X (.builtin "min") min2G := bi_mk (g := min2G) (by intro vs s d s'; unfold min2G; (repeat' split) <;> exact fun z => nomatch z) fun pins s σ H us Q G AD Fr st vs xs v st' I rv S rs e q => by
  unfold min2G at e
  split at e
  · cases e
    cases rs with
    | cons r t =>
      cases t with
      | cons r2 t =>
        cases t
        cases r; cases r2
        exact call_min2 hc pins s σ H _ us Q I rv ⟨_, _, rfl, q G AD H _ (Same.refl _) Ext.refl ⟨S, .int _⟩⟩
  · cases e
theorem bi_int : BiD X (.type "int") intG := bi_mk (g := intG) (by intro vs s d s'; unfold intG; (repeat' split) <;> exact fun z => nomatch z) fun pins s σ H us Q G AD Fr st vs xs v st' I rv S rs e q => by
  unfold intG at e
  split at e
  · cases e
    cases rs with
    | cons r t =>
      cases t; cases r
      exact call_int1 pins s σ H _ us Q I rv (.inl ⟨_, rfl, q G AD H _ (Same.refl _) Ext.refl ⟨S, .int _⟩⟩)
  · cases e
    cases rs with
    | cons r t =>
      cases t; cases r
      exact call_int1 pins s σ H _ us Q I rv (.inr ⟨_, rfl, q G AD H _ (Same.refl _) Ext.refl ⟨S, .int _⟩⟩)
  · split at e
    · rename_i hn
      split at e
      · rename_i hl
        cases e
        cases rs with
        | cons r t =>
          cases t; cases r
          exact call_int_str pins s σ H _ us Q I rv ⟨_, _, rfl, hn, hl, q G AD H _ (Same.refl _) Ext.refl ⟨S, .int _⟩⟩
      · cases e
    · cases e
  · cases e
theorem bi_str : BiD X (.type "str") strG := bi_mk (g := strG) (by intro vs s d s'; unfold strG; (repeat' split) <;> exact fun z => nomatch z) fun pins s σ H us Q G AD Fr st vs xs v st' I rv S rs e q => by
  unfold strG at e
  split at e
  · split at e
    · rename_i hl
      cases e
      cases rs with
      | cons r t =>
        cases t; cases r
        exact call_str_int pins s σ H _ us Q I rv ⟨_, rfl, hl, q G AD H _ (Same.refl _) Ext.refl ⟨S, .str _⟩⟩
    · cases e
  · cases e
    cases rs with
    | cons r t =>
      cases t; cases r
      exact SkE.call_str_str pins s σ H _ us Q I rv ⟨_, rfl, q G AD H _ (Same.refl _) Ext.refl ⟨S, .str _⟩⟩
  · cases e
theorem lst_bind {α : Type} {s : Sto} {v : Val} {f : List D → Option α} {bs : α} (h : (lstOf s v).bind f = some bs) : ∃ xs, lstOf s v = some xs ∧ f xs = some bs := Option.bind_eq_some_iff.mp h
theorem bi_all (hc : X.calm = true) : BiD X (.builtin "all") allG := bi_mk (g := allG) (by intro vs s d s'; unfold allG; (repeat' split) <;> exact fun z => nomatch z) fun pins s σ H us Q G AD Fr st vs xs v st' I rv S rs e q => by
  unfold allG at e
  split at e
  · split at e
    · rename_i hb
      cases e
      cases rs with
      | cons r t =>
        cases t
        obtain ⟨ys, h1, h2⟩ := lst_bind hb
        obtain ⟨a, ws, rfl, h3, h4⟩ := lst_at S r h1
        have := blsOf_rep h4 h2
        subst this
        exact cr_all hc pins s σ H _ us Q I rv ⟨_, _, rfl, SqL.of h3, q G AD H _ (Same.refl _) Ext.refl ⟨S, .bl _⟩⟩
    · cases e
  · cases e
theorem bi_any (hc : X.calm = true) : BiD X (.builtin "any") anyG := bi_mk (g := anyG) (by intro vs s d s'; unfold anyG; (repeat' split) <;> exact fun z => nomatch z) fun pins s σ H us Q G AD Fr st vs xs v st' I rv S rs e q => by
  unfold anyG at e
  split at e
  · split at e
    · rename_i hb
      cases e
      cases rs with
      | cons r t =>
        cases t
        obtain ⟨ys, h1, h2⟩ := lst_bind hb
        obtain ⟨a, ws, rfl, h3, h4⟩ := lst_at S r h1
        have := blsOf_rep h4 h2
        subst this
        exact cr_any hc pins s σ H _ us Q I rv ⟨_, _, rfl, SqL.of h3, q G AD H _ (Same.refl _) Ext.refl ⟨S, .bl _⟩⟩
    · cases e
  · cases e
theorem bi_sum (hc : X.calm = true) : BiD X (.builtin "sum") sumG := bi_mk (g := sumG) (by intro vs s d s'; unfold sumG; (repeat' split) <;> exact fun z => nomatch z) fun pins s σ H us Q G AD Fr st vs xs v st' I rv S rs e q => by
  unfold sumG at e
  split at e
  · split at e
    · rename_i hb
      cases e
      cases rs with
      | cons r t =>
        cases t
        obtain ⟨ys, h1, h2⟩ := lst_bind hb
        obtain ⟨a, ws, rfl, h3, h4⟩ := lst_at S r h1
        have := intsOf_rep h4 h2
        subst this
        exact cr_sum hc pins s σ H _ us Q I rv ⟨_, _, rfl, SqL.of h3, q G AD H _ (Same.refl _) Ext.refl ⟨S, .int _⟩⟩
    · cases e
  · cases e
theorem bi_max1 (hc : X.calm = true) : BiD X (.builtin "max") max1G := bi_mk (g := max1G) (by intro vs s d s'; unfold max1G; (repeat' split) <;> exact fun z => nomatch z) fun pins s σ H us Q G AD Fr st vs xs v st' I rv S rs e q => by
  unfold max1G at e
  split at e
  · split at e
    · rename_i hb
      cases e
      cases rs with
      | cons r t =>
        cases t
        obtain ⟨ns, hns, hm⟩ := Option.bind_eq_some_iff.mp hb
        obtain ⟨ys, h1, h2⟩ := lst_bind hns
        obtain ⟨a, ws, rfl, h3, h4⟩ := lst_at S r h1
        have := intsOf_rep h4 h2
        subst this
        refine cr_max hc pins s σ H _ us Q I rv ⟨_, _, rfl, SqL.of h3, ?_, fun m hm1 hm2 => ?_⟩
        · cases ns with
          | nil => cases hm
          | cons i r => exact Nat.succ_pos _
        · cases ns with
          | nil => cases hm
          | cons i r =>
            cases hm
            obtain ⟨k1, k2, k3⟩ := foldl_max r i
            have e : m = r.foldl max i := by
              have a1 : r.foldl max i ≤ m := by
                rcases k1 with k1 | k1
                · rw [k1]; exact hm2 i List.mem_cons_self
                · exact hm2 _ (List.mem_cons_of_mem _ k1)
              have a2 : m ≤ r.foldl max i := by
                rcases List.mem_cons.mp hm1 with z | z
                · rw [z]; exact k2
                · exact k3 m z
              omega
            rw [e]
            exact q G AD H _ (Same.refl _) Ext.refl ⟨S, .int _⟩
    · cases e
  · cases e
theorem bi_min1 (hc : X.calm = true) : BiD X (.builtin "min") min1G := bi_mk (g := min1G) (by intro vs s d s'; unfold min1G; (repeat' split) <;> exact fun z => nomatch z) fun pins s σ H us Q G AD Fr st vs xs v st' I rv S rs e q => by
  unfold min1G at e
  split at e
  · split at e
    · rename_i hb
      cases e
      cases rs with
      | cons r t =>
        cases t
        obtain ⟨ns, hns, hm⟩ := Option.bind_eq_some_iff.mp hb
        obtain ⟨ys, h1, h2⟩ := lst_bind hns
        obtain ⟨a, ws, rfl, h3, h4⟩ := lst_at S r h1
        have := intsOf_rep h4 h2
        subst this
        refine cr_min hc pins s σ H _ us Q I rv ⟨_, _, rfl, SqL.of h3, ?_, fun m hm1 hm2 => ?_⟩
        · cases ns with
          | nil => cases hm
          | cons i r => exact Nat.succ_pos _
        · cases ns with
          | nil => cases hm
          | cons i r =>
            cases hm
            obtain ⟨k1, k2, k3⟩ := foldl_min r i
            have e : m = r.foldl min i := by
              have a1 : m ≤ r.foldl min i := by
                rcases k1 with k1 | k1
                · rw [k1]; exact hm2 i List.mem_cons_self
                · exact hm2 _ (List.mem_cons_of_mem _ k1)
              have a2 : r.foldl min i ≤ m := by
                rcases List.mem_cons.mp hm1 with z | z
                · rw [z]; exact k2
                · exact k3 m z
              omega
            rw [e]
            exact q G AD H _ (Same.refl _) Ext.refl ⟨S, .int _⟩
    · cases e
  · cases e
theorem bi_list : BiD X (.type "list") listG := bi_mk (g := listG) (by intro vs s d s'; unfold listG; (repeat' split) <;> exact fun z => nomatch z) fun pins s σ H us Q G AD Fr st vs xs v st' I rv S rs e q => by
  unfold listG at e
  split at e
  · split at e
    · rename_i hs
      cases e
      cases rs with
      | cons r t =>
        cases t
        obtain ⟨a, ws, rfl, h1, h2⟩ := seq_at S r hs
        exact call_list_of pins s σ H _ us Q I rv ⟨_, _, rfl, h1, fun p hp => q G _ _ _ (Same.refl _) Ext.put (RV.new S hp ⟨_, upd_same, h2⟩)⟩
    · cases e
  · cases e
theorem bi_tuple : BiD X (.type "tuple") tupleG := bi_mk (g := tupleG) (by intro vs s d s'; unfold tupleG; (repeat' split) <;> exact fun z => nomatch z) fun pins s σ H us Q G AD Fr st vs xs v st' I rv S rs e q => by
  unfold tupleG at e
  split at e
  · split at e
    · rename_i ys hs
      cases e
      cases rs with
      | cons r t =>
        cases t
        have fin : ∀ {a : Addr} {ws : List V}, SqL X.K H a ws → RepL (tx X) G ws ys → Vals [V.ref a] us → wpAny (model X.prog X.w) X.A (call (.type "tuple") us) (EP X pins σ Q) X.xe s := fun {a ws} h1 h2 rv => by
          refine call_tuple_of pins s σ H _ us Q I rv ⟨_, ws, rfl, .inl ⟨h1, fun p hp => ?_⟩⟩
          obtain ⟨G', k1, k2⟩ := RV.newI S hp fun G' gg e => .tup (SqT.of e) (h2.mono gg)
          exact q _ AD _ _ k1 Ext.refl k2
        unfold seqOf at hs
        split at hs
        · cases hs
          cases r with
          | tup h1 h2 =>
            exact call_tuple_of pins s σ H _ us Q I rv ⟨_, _, rfl, .inr ⟨sameT S.gh h1, q G AD H _ (Same.refl _) Ext.refl ⟨S, .tup h1 h2⟩⟩⟩
        · cases hs
          cases r with
          | scr h1 h2 => exact fin (Same.seq S.gh h1) h2 rv
        · obtain ⟨a, ws, rfl, h1, h2⟩ := lst_at S r hs
          exact fin (SqL.of h1) h2 rv
    · cases e
  · cases e
end
end DL
end

set_option Elab.async false
set_option linter.all false
set_option maxRecDepth 100000
set_option maxHeartbeats 4000000
noncomputable section
namespace DL
open PySem PySem.Spec PyProof.Rows L2

/-! ## in -/
def flD : D → Bool
  | .non => true
  | .bl _ => true
  | .int _ => true
  | .str _ => true
  | _ => false
def eqFl : D → D → Bool
  | .int a, .int b => decide (a = b)
  | .str a, .str b => decide (a = b)
  | .non, .non => true
  | .bl a, .bl b => a == b
  | .bl a, .int b => (if a then 1 else 0) == b
  | .int a, .bl b => a == (if b then 1 else 0)
  | _, _ => false
theorem flD_V {T : TX} {G : Hp} {x : V} {d : D} (h : Rep T G x d) (f : flD d = true) : L2.flatV x = true := by
  cases h <;> first | rfl | cases f
theorem flD_all {T : TX} {G : Hp} : ∀ {xs : List V} {ds : List D}, RepL T G xs ds → ds.all flD = true → xs.all L2.flatV = true
  | _, _, .nil, _ => rfl
  | _, _, .cons r t, h => by
    rw [List.all_cons, Bool.and_eq_true] at h ⊢
    exact ⟨flD_V r h.1, flD_all t h.2⟩
theorem eqFl_V {T : TX} {G : Hp} {x y : V} {a b : D} (h : Rep T G x a) (k : Rep T G y b) (fa : flD a = true) (fb : flD b = true) : L2.eqV x y = eqFl a b := by
  cases h <;> cases k <;> first
    | rfl
    | (exfalso; revert fa; exact fun z => nomatch z)
    | (exfalso; revert fb; exact fun z => nomatch z)
    | (simp only [L2.eqV, eqFl]; rw [Bool.eq_iff_iff]; simp; done)
theorem inFl_V {T : TX} {G : Hp} {x : V} {a : D} (h : Rep T G x a) (fa : flD a = true) : ∀ {xs : List V} {ds : List D}, RepL T G xs ds → ds.all flD = true → L2.inV x xs = ds.any fun y => eqFl y a
  | _, _, .nil, _ => rfl
  | _, _, .cons r t, f => by
    rw [List.all_cons, Bool.and_eq_true] at f
    have ih := inFl_V h fa t f.2
    unfold L2.inV at ih ⊢
    rw [List.any_cons, List.any_cons, eqFl_V r h f.1 fa, ih]
def inSeq (neg : Bool) : Val → Val → M Val := fun a b s => match a with
  | .d x => match seqOf s b with
    | some xs => if flD x = true ∧ xs.all flD = true then .ok (.d (.bl (if neg then !(xs.any fun y => eqFl y x) else xs.any fun y => eqFl y x))) s else .bad
    | none => .bad
  | _ => .bad
def inStr (neg : Bool) : Val → Val → M Val := fun a b s => match a, b with
  | .d (.str ⟨c⟩), .d (.str z) => match c.toList with
    | [k] => .ok (.d (.bl (if neg then !decide (k ∈ z.cps.toList) else decide (k ∈ z.cps.toList)))) s
    | _ => .ok (.d (.bl (if neg then !(!(Builtin.Str.occurrences z ⟨c⟩ 0 z.length 1).isEmpty) else !(Builtin.Str.occurrences z ⟨c⟩ 0 z.length 1).isEmpty))) s
  | _, _ => .bad
def inDeep (neg : Bool) : Val → Val → M Val := fun a b s => match asD s a, lstOf s b with
  | some x, some xs => match toPy x, toPys xs with
    | some p, some ps => if SeqAt.shaped p = true ∧ SeqAt.shaped (.list ps) = true then .ok (.d (.bl (if neg then !(ps.any fun z => PyData.eqv z p) else ps.any fun z => PyData.eqv z p))) s else .bad
    | _, _ => .bad
  | _, _ => .bad
section
variable {X : Cx}
theorem od_mk {f : Value → Value → Sem Value} {op : Val → Val → M Val} (nx : ∀ x y s d s', op x y s ≠ .exc d s') (h : ∀ (pins : List (Addr × Obj)) (s : Shared) (σ : L2.St) (H : Hp) (x y : V) (u w : Value) (Q : VK) (G : Hp) (AD : AM) (Fr : Hp) (st : Sto) (vx vy v : Val) (st' : Sto), Inv X pins σ H s → RelV x u → RelV y w → SimS (tx X) G AD Fr st H → VR (tx X) G AD st vx x → VR (tx X) G AD st vy y → op vx vy st = .ok v st' →
    (∀ G' AD' H' z, Same G G' → Ext All st AD st' AD' → RV (tx X) G' AD' Fr st' H' v z → Q z H') → wpAny (model X.prog X.w) X.A (f u w) (EP X pins σ Q) X.xe s) : OpD X f op :=
  ⟨fun pins s σ H x y u w Q I r1 r2 ⟨G, AD, Fr, st, vx, vy, v, s', S, k1, k2, e, q⟩ => h pins s σ H x y u w Q G AD Fr st vx vy v s' I r1 r2 S k1 k2 e q, nx⟩
theorem od_inSeq : OpD X (compareOp .In) (inSeq false) := od_mk (op := inSeq false) (by intro x y s d s'; unfold inSeq; (repeat' split) <;> exact fun z => nomatch z) fun pins s σ H x y u w Q G AD Fr st vx vy v st' I r1 r2 S k1 k2 e q => by
  unfold inSeq at e
  split at e
  · split at e
    · rename_i hs
      split at e
      · rename_i hf
        cases e
        obtain ⟨a, vs, rfl, h1, h2⟩ := seq_at S k2 hs
        refine op_in_seq pins s σ H x _ u w Q I r1 r2 ⟨a, vs, rfl, h1, flD_V k1 hf.1, flD_all h2 hf.2, ?_⟩
        rw [inFl_V k1 hf.1 h2 hf.2]
        exact q G AD H _ (Same.refl _) Ext.refl ⟨S, .bl _⟩
      · cases e
    · cases e
  · cases e
theorem od_notInSeq : OpD X (compareOp .NotIn) (inSeq true) := od_mk (op := inSeq true) (by intro x y s d s'; unfold inSeq; (repeat' split) <;> exact fun z => nomatch z) fun pins s σ H x y u w Q G AD Fr st vx vy v st' I r1 r2 S k1 k2 e q => by
  unfold inSeq at e
  split at e
  · split at e
    · rename_i hs
      split at e
      · rename_i hf
        cases e
        obtain ⟨a, vs, rfl, h1, h2⟩ := seq_at S k2 hs
        refine op_notIn_seq pins s σ H x _ u w Q I r1 r2 ⟨a, vs, rfl, h1, flD_V k1 hf.1, flD_all h2 hf.2, ?_⟩
        rw [inFl_V k1 hf.1 h2 hf.2]
        exact q G AD H _ (Same.refl _) Ext.refl ⟨S, .bl _⟩
      · cases e
    · cases e
  · cases e
theorem one_cp {c : Array Nat} {k : Nat} (h : c.toList = [k]) : c = #[k] := by
  have := congrArg List.toArray h
  simpa using this
theorem od_inStr : OpD X (compareOp .In) (inStr false) := od_mk (op := inStr false) (by intro x y s d s'; unfold inStr; (repeat' split) <;> exact fun z => nomatch z) fun pins s σ H x y u w Q G AD Fr st vx vy v st' I r1 r2 S k1 k2 e q => by
  unfold inStr at e
  split at e
  · split at e
    · rename_i hk
      cases e
      cases k1; cases k2
      have := one_cp hk
      subst this
      exact op_in_sign pins s σ H _ _ u w Q I r1 r2 ⟨_, _, rfl, rfl, q G AD H _ (Same.refl _) Ext.refl ⟨S, .bl _⟩⟩
    · cases e
      cases k1; cases k2
      exact op_in_str pins s σ H _ _ u w Q I r1 r2 ⟨_, _, rfl, rfl, q G AD H _ (Same.refl _) Ext.refl ⟨S, .bl _⟩⟩
  · cases e
theorem od_notInStr : OpD X (compareOp .NotIn) (inStr true) := od_mk (op := inStr true) (by intro x y s d s'; unfold inStr; (repeat' split) <;> exact fun z => nomatch z) fun pins s σ H x y u w Q G AD Fr st vx vy v st' I r1 r2 S k1 k2 e q => by
  unfold inStr at e
  split at e
  · split at e
    · rename_i hk
      cases e
      cases k1; cases k2
      have := one_cp hk
      subst this
      exact op_notIn_sign pins s σ H _ _ u w Q I r1 r2 ⟨_, _, rfl, rfl, q G AD H _ (Same.refl _) Ext.refl ⟨S, .bl _⟩⟩
    · cases e
      cases k1; cases k2
      exact op_notIn_str pins s σ H _ _ u w Q I r1 r2 ⟨_, _, rfl, rfl, q G AD H _ (Same.refl _) Ext.refl ⟨S, .bl _⟩⟩
  · cases e
theorem od_inDeep (hu : X.A.units + 65 < cLine) : OpD X (compareOp .In) (inDeep false) := od_mk (op := inDeep false) (by intro x y s d s'; unfold inDeep; (repeat' split) <;> exact fun z => nomatch z) fun pins s σ H x y u w Q G AD Fr st vx vy v st' I r1 r2 S k1 k2 e q => by
  unfold inDeep at e
  split at e
  · rename_i hx hl
    split at e
    · rename_i hp hps
      split at e
      · rename_i hs
        cases e
        obtain ⟨a, vs, rfl, h1, h2⟩ := lst_at S k2 hl
        exact op_inD hu pins s σ H x _ u w Q I r1 r2 ⟨_, _, dp_asD S k1 hx hp, .lst (SqL.of h1) (dps_of S.gh _ h2 hps), hs.1, hs.2, q G AD H _ (Same.refl _) Ext.refl ⟨S, .bl _⟩⟩
      · cases e
    · cases e
  · cases e
theorem od_notInDeep (hu : X.A.units + 65 < cLine) : OpD X (compareOp .NotIn) (inDeep true) := od_mk (op := inDeep true) (by intro x y s d s'; unfold inDeep; (repeat' split) <;> exact fun z => nomatch z) fun pins s σ H x y u w Q G AD Fr st vx vy v st' I r1 r2 S k1 k2 e q => by
  unfold inDeep at e
  split at e
  · rename_i hx hl
    split at e
    · rename_i hp hps
      split at e
      · rename_i hs
        cases e
        obtain ⟨a, vs, rfl, h1, h2⟩ := lst_at S k2 hl
        exact op_notInD hu pins s σ H x _ u w Q I r1 r2 ⟨_, _, dp_asD S k1 hx hp, .lst (SqL.of h1) (dps_of S.gh _ h2 hps), hs.1, hs.2, q G AD H _ (Same.refl _) Ext.refl ⟨S, .bl _⟩⟩
      · cases e
    · cases e
  · cases e
end
/-! ## chains, minus -/
def eChain (o o' : Val → Val → M Val) (a b c : En → M Val) : En → M Val := fun env => bnd (stl a env) fun x => bnd (stl b env) fun y => bnd (o x y) fun z s => match z with
  | .d (.bl k) => if k = true then bnd (stl c env) (fun w => o' y w) s else .ok (.d (.bl false)) s
  | _ => .bad
def eNeg (a : En → M Val) : En → M Val := fun env => bnd (a env) fun v s => match v with
  | .d (.int i) => .ok (.d (.int (-i))) s
  | _ => .bad
section
variable {X : Cx} {Y : FC} {W : WX} {a b c : Expr} {ma mb mc : En → M Val} {pos : Pos}
theorem chain_post {o o' : Val → Val → M Val} (nx : ∀ x y s d s', o x y s ≠ .exc d s') (nx' : ∀ x y s d s', o' x y s ≠ .exc d s') {σ : L2.St} {H : Hp} {Q : VK} {G : Hp} {AD : AM} {Fr : Hp} {env : En} {s : Sto} (S : SimE (tx X) Y G AD Fr env s σ H)
    (p : PostR All (tx X) W Fr σ G AD s (eChain o o' ma mb mc env s) (CE (tx X) Fr Q)) : tChain (rOp (tx X) o) (rOp (tx X) o') (tE X Y W (stl ma)) (tE X Y W (stl mb)) (tE X Y W (stl mc)) σ H Q := by
  refine stepE S p fun v s1 G1 AD1 H1 x h1 g1 e1 S1 r1 p1 => ?_
  refine stepE S1 p1 fun u s2 G2 AD2 H2 y h2 g2 e2 S2 r2 p2 => ?_
  cases hr : o v u s2 with
  | bad => rw [bnd, hr] at p2; exact p2.elim
  | exc d s' => exact absurd hr (nx _ _ _ _ _)
  | ok z s' =>
    rw [bnd, hr] at p2
    refine ⟨G2, AD2, Fr, s2, v, u, z, s', S2.ss, (r1.vr (stl_notf h1)).mono g2 e2, r2.vr (stl_notf h2), hr, fun G' AD' H' w g e r => ?_⟩
    have S3 : SimE (tx X) Y G' AD' Fr env s' σ H' := ⟨r.ss, S2.en.mono g e, Nat.le_trans S2.bl e.len⟩
    obtain ⟨k, rfl, p3⟩ := bl_case (k := fun k s => if k = true then bnd (stl mc env) (fun w => o' u w) s else .ok (.d (.bl false)) s) r (PostR.mono p2 g e)
    refine ⟨k, rfl, ?_⟩
    cases k with
    | false => exact iteF (PostR.done p3 (Same.refl _) Ext.refl ⟨S3.ss, .bl false⟩)
    | true =>
      refine iteT ?_
      refine stepE (k := fun w => o' u w) S3 p3 fun w' s4 G4 AD4 H4 y4 h4 g4 e4 S4 r4 p4 => ?_
      cases hr' : o' u w' s4 with
      | bad => rw [hr'] at p4; exact p4.elim
      | exc d s' => exact absurd hr' (nx' _ _ _ _ _)
      | ok z' s5 =>
        rw [hr'] at p4
        exact ⟨G4, AD4, Fr, s4, u, w', z', s5, S4.ss, ((r2.vr (stl_notf h2)).mono g e).mono g4 e4, r4.vr (stl_notf h4), hr', fun G' AD' H' w g e r => p4.done g e r⟩
theorem de_chain {op op' : CmpOp} {o o' : Val → Val → M Val} (O : OpD X (compareOp op) o) (O' : OpD X (compareOp op') o') (ha : DE X Y W a ma) (hb : DE X Y W b mb) (hc : DE X Y W c mc)
    (hm : lastMarks [op, op'] [b, c] = false := by with_unfolding_all rfl) : DE X Y W (.Compare a [op, op'] [b, c] pos) (eChain o o' ma mb mc) :=
  mkE (pe_chain O.run O'.run ha.stl.pe hb.stl.pe hc.stl.pe hm) fun σ H Q G AD Fr env s S p => chain_post O.nx O'.nx S p
theorem dt_chain {op op' : CmpOp} {o o' : Val → Val → M Val} (O : OpD X (compareOp op) o) (O' : OpD X (compareOp op') o') (ha : DE X Y W a ma) (hb : DE X Y W b mb) (hc : DE X Y W c mc)
    (hm : lastMarks [op, op'] [b, c] = false := by with_unfolding_all rfl) : DT X Y W (.Compare a [op, op'] [b, c] pos) (tVal (eChain o o' ma mb mc)) :=
  mkT (pt_chain O.run O'.run ha.stl.pe hb.stl.pe hc.stl.pe hm) fun σ H Q G AD Fr env s S p => by
    show tChain _ _ _ _ _ σ H _
    refine chain_post (W := W) O.nx O'.nx S ?_
    have p' : PostR All (tx X) W Fr σ G AD s ((eChain o o' ma mb mc env s).bnd fun v s => match v with | .d (.bl b) => .ok b s | _ => .bad) (CT (tx X) Fr Q) := p
    cases hr : eChain o o' ma mb mc env s with
    | bad => rw [hr] at p'; exact p'
    | exc d s' => rw [hr] at p'; exact p'
    | ok z s' =>
      rw [hr] at p'
      intro G' AD' H' g e x r
      obtain ⟨k, rfl, p3⟩ := bl_case (k := fun b s => Res.ok b s) r (PostR.mono (show PostR All (tx X) W Fr σ G AD s (match z with | .d (.bl b) => .ok b s' | _ => .bad) (CT (tx X) Fr Q) from p') g e)
      exact ⟨k, rfl, p3.doneT (Same.refl _) Ext.refl r.ss⟩
theorem de_neg (ha : DE X Y W a ma) : DE X Y W (.UnaryOp .USub a pos) (eNeg ma) := mkE (pe_un un_neg ha.pe) fun σ H Q G AD Fr env s S p => by
  refine stepE S p fun v s1 G1 AD1 H1 x h1 g1 e1 S1 r1 p1 => ?_
  cases v with
  | m l q => exact p1.elim
  | f t => exact p1.elim
  | d y =>
    cases y with
    | int i =>
      cases r1.2
      exact ⟨i, rfl, PostR.done p1 (Same.refl _) Ext.refl ⟨S1.ss, .int _⟩⟩
    | _ => exact p1.elim
end
/-! ## slices -/
def cutD (xs : List D) (lo hi : Option Int) : List D := (xs.drop (HT.sIx xs.length 0 lo)).take (HT.sIx xs.length xs.length hi - HT.sIx xs.length 0 lo)
def sliceV (lo hi : Option Int) : Val → M Val := fun v s => match v with
  | .d (.str z) => if z.length ≤ sizeLine then .ok (.d (.str (cutS z lo hi))) s else .bad
  | .d (.tup xs) => if HT.sIx xs.length 0 lo = 0 ∧ HT.sIx xs.length xs.length hi = xs.length then .bad else .ok (.d (.tup (cutD xs lo hi))) s
  | v => match seqOf s v with
    | some xs => .ok (.f [([], .lst (cutD xs lo hi))]) s
    | none => .bad
def ePart : Option (En → M Val) → En → M (Option Int)
  | none => fun _ => ret none
  | some m => fun env => bnd (m env) fun v s => match v with
    | .d (.int i) => .ok (some i) s
    | _ => .bad
def eSlice (m : En → M Val) (lo hi : Option (En → M Val)) : En → M Val := fun env => bnd (stl m env) fun v => bnd (ePart lo env) fun l => bnd (ePart hi env) fun h => sliceV l h v
theorem sliceV_nx {lo hi : Option Int} {v : Val} {s : Sto} {d : D} {s' : Sto} : sliceV lo hi v s ≠ .exc d s' := by
  unfold sliceV
  (repeat' split) <;> exact fun z => nomatch z
def rSlD (T : TX) : V → Option Int → Option Int → Hp → VK → Prop := fun x lo hi H Q => ∃ G AD Fr s v v' s', SimS T G AD Fr s H ∧ VR T G AD s v x ∧ sliceV lo hi v s = .ok v' s' ∧ ∀ G' AD' H' z, Same G G' → Ext All s AD s' AD' → RV T G' AD' Fr s' H' v' z → Q z H'
section
variable {X : Cx} {Y : FC} {W : WX} {e : Expr} {lo hi : Option Expr} {m : En → M Val} {ml mh : Option (En → M Val)} {pos p2 : Pos}
theorem sl_data : SlR X (rSlD (tx X)) := by
  intro pins s σ H x v vl vu lo hi sl Q I rx hs pl pu h
  obtain ⟨G, AD, Fr, st, vx, v', st', S, r, e, q⟩ := h
  unfold sliceV at e
  split at e
  · rename_i z
    split at e
    · rename_i hz
      cases e
      cases (r : Rep (tx X) G x (.str z))
      exact sl_str pins s σ H _ v vl vu lo hi sl Q I rx hs pl pu ⟨_, rfl, hz, q G AD H _ (Same.refl _) Ext.refl ⟨S, .str _⟩⟩
    · cases e
  · split at e
    · cases e
    · rename_i ys hw
      cases e
      cases (show Rep (tx X) G x (.tup ys) from r) with
      | @tup a1 vs1 _ h1 h2 =>
        refine sl_tup pins s σ H _ v vl vu lo hi sl Q I rx hs pl pu ⟨_, _, rfl, sameT S.gh h1, by rw [h2.len]; exact hw, fun p hp => ?_⟩
        have hcut : RepL (tx X) G (L2.cutV vs1 lo hi) (cutD ys lo hi) := by
          unfold L2.cutV cutD
          rw [h2.len]
          exact (h2.drop _).take _
        obtain ⟨G', k1, k2⟩ := RV.newI S hp fun G' gg e => .tup (SqT.of e) (hcut.mono gg)
        exact q _ AD _ _ k1 Ext.refl k2
  · split at e
    · rename_i xs hs'
      cases e
      have fin : ∀ {a : Addr} {vs : List V}, x = .ref a → SqL X.K H a vs → RepL (tx X) G vs xs → ∃ T id, typeLookup (.type T) "__getitem__" = pure (some (.builtin id)) ∧ s.TypeIs v T ∧ wpAny (model X.prog X.w) X.A (getItem v (.ref sl)) (EP X pins σ Q) X.xe s := fun {a vs} ex h1 h2 => by
        subst ex
        refine sl_list pins s σ H _ v vl vu lo hi sl Q I rx hs pl pu ⟨_, vs, rfl, h1, fun p hp => q G _ _ _ (Same.refl _) Ext.put (RV.new S hp ⟨_, upd_same, ?_⟩)⟩
        unfold L2.cutV cutD
        rw [h2.len]
        exact (h2.drop _).take _
      unfold seqOf at hs'
      split at hs'
      · rename_i h1 h2
        first
          | exact absurd rfl (h1 _)
          | exact absurd rfl (h2 _)
      · cases hs'
        cases (show Rep (tx X) G x (.scr _) from r) with
        | scr h1 h2 => exact fin rfl (Same.seq S.gh h1) h2
      · obtain ⟨a, vs, rfl, h1, h2⟩ := lst_at S r hs'
        exact fin rfl (SqL.of h1) h2
    · cases e
/-- a slice's bound -/
def tO (X : Cx) (Y : FC) (W : WX) (m : Option (En → M Val)) : TO := fun σ H Q => ∃ G AD Fr env s, SimE (tx X) Y G AD Fr env s σ H ∧ PostR All (tx X) W Fr σ G AD s (ePart m env s) (fun l G' AD' s' H' => SimS (tx X) G' AD' Fr s' H' → Q l H')
structure DO (X : Cx) (Y : FC) (W : WX) (e : Option Expr) (m : Option (En → M Val)) : Prop where
  po : PO X e (tO X Y W m)
theorem do_none : DO X Y W none none := ⟨⟨fun pins s σ H Q I ⟨G, AD, Fr, env, st, S, p⟩ => po_none.run pins s σ H Q I (p G AD H (Same.refl _) Ext.refl S.ss)⟩⟩
theorem do_some (h : DE X Y W e m) : DO X Y W (some e) (some m) := ⟨⟨fun pins s σ H Q I ⟨G, AD, Fr, env, st, S, p⟩ => (po_some h.pe).run pins s σ H Q I (by
  refine stepE S p fun v s1 G1 AD1 H1 x h1 g1 e1 S1 r1 p1 => ?_
  cases v with
  | m l q => exact p1.elim
  | f t => exact p1.elim
  | d y =>
    cases y with
    | int i =>
      cases r1.2
      exact ⟨i, rfl, p1 G1 AD1 H1 (Same.refl _) Ext.refl S1.ss⟩
    | _ => exact p1.elim)⟩⟩
theorem stepO {ma : Option (En → M Val)} {β : Type} {q : Nat → Prop} {k : Option Int → M β} {G : Hp} {AD : AM} {Fr : Hp} {env : En} {s : Sto} {σ : L2.St} {H : Hp} {Q' : Option Int → Hp → Prop} {C : β → Hp → AM → Sto → Hp → Prop}
    (S : SimE (tx X) Y G AD Fr env s σ H) (p : PostR q (tx X) W Fr σ G AD s ((ePart ma env s).bnd k) C)
    (h : ∀ v s1 G1 AD1 H1, ePart ma env s = .ok v s1 → Same G G1 → Ext All s AD s1 AD1 → SimE (tx X) Y G1 AD1 Fr env s1 σ H1 → PostR q (tx X) W Fr σ G1 AD1 s1 (k v s1) C → Q' v H1) : tO X Y W ma σ H Q' := by
  refine ⟨G, AD, Fr, env, s, S, ?_⟩
  cases e : ePart ma env s with
  | bad => rw [e] at p; exact p
  | exc d s' =>
    rw [e] at p
    exact fun G' AD' H' cls dx g x => p G' AD' H' cls dx g (x.mono fun _ _ => trivial)
  | ok v s' =>
    rw [e] at p
    have p' : PostR q (tx X) W Fr σ G AD s (k v s') C := p
    exact fun G' AD' H' g x r => h v s' G' AD' H' e g x ⟨r, S.en.mono g x, Nat.le_trans S.bl x.len⟩ (p'.mono g (x.mono fun _ _ => trivial))
theorem de_slice (h : DE X Y W e m) (hl : DO X Y W lo ml) (hh : DO X Y W hi mh) : DE X Y W (.Subscript e (.Slice lo hi none p2) pos) (eSlice m ml mh) :=
  mkE (pe_slice sl_data h.stl.pe hl.po hh.po) fun σ H Q G AD Fr env s S p => by
    refine stepE S p fun v s1 G1 AD1 H1 x h1 g1 e1 S1 r1 p1 => ?_
    refine stepO S1 p1 fun l s2 G2 AD2 H2 h2 g2 e2 S2 p2 => ?_
    refine stepO S2 p2 fun u s3 G3 AD3 H3 h3 g3 e3 S3 p3 => ?_
    cases hr : sliceV l u v s3 with
    | bad => rw [hr] at p3; exact p3.elim
    | exc d s' => exact absurd hr sliceV_nx
    | ok z s' =>
      rw [hr] at p3
      exact ⟨G3, AD3, Fr, s3, v, z, s', S3.ss, ((r1.vr (stl_notf h1)).mono g2 e2).mono g3 e3, hr, fun G' AD' H' w g e r => p3.done g e r⟩
end
end DL
end

set_option Elab.async false
set_option linter.all false
set_option maxRecDepth 100000
set_option maxHeartbeats 4000000
noncomputable section
namespace DL
open PySem PySem.Spec PyProof.Rows L2

/-! ## comprehensions -/
def wipeE (env : En) : List Nat → En
  | [] => env
  | v :: vs => (wipeE env vs).set v none
theorem wipeE_len (env : En) : ∀ vs : List Nat, (wipeE env vs).length = env.length
  | [] => rfl
  | v :: vs => by unfold wipeE; rw [List.length_set, wipeE_len env vs]
theorem wipeE_some {env : En} {i : Nat} {x : Val} : ∀ {vs : List Nat}, (wipeE env vs)[i]? = some (some x) → env[i]? = some (some x) ∧ i ∉ vs
  | [], h => ⟨h, by simp⟩
  | v :: vs, h => by
    unfold wipeE at h
    by_cases hi : v = i
    · subst hi
      by_cases hv : v < (wipeE env vs).length
      · rw [List.getElem?_set_self hv] at h; cases h
      · rw [List.getElem?_eq_none (by simpa using hv)] at h; cases h
    · rw [List.getElem?_set_ne hi] at h
      obtain ⟨h1, h2⟩ := wipeE_some h
      exact ⟨h1, by simp only [List.mem_cons, not_or]; exact ⟨fun e => hi e.symm, h2⟩⟩
theorem EnvOk.wipe {T : TX} {Y : FC} {G : Hp} {AD : AM} {env : En} {s : Sto} {σ : L2.St} (h : EnvOk T Y G AD env s σ) (vs : List Nat) : EnvOk T Y.cl G AD (wipeE env vs) s (L2.wipe σ vs) :=
  ⟨by rw [wipeE_len, wipe_length]; exact h.len, fun i v hv => by
    obtain ⟨h1, h2⟩ := wipeE_some hv
    obtain ⟨x, h3, h4⟩ := h.val i v h1
    exact ⟨x, by rw [wipe_out h2]; exact h3, h4⟩, fun i l p hv => h.own i l p (wipeE_some hv).1, fun _ _ h => by (cases h), fun p h => by (cases h)⟩
theorem wipe_idem {vs : List Nat} {σ : L2.St} : ∀ {ws : List Nat}, (∀ w ∈ ws, w ∈ vs) → L2.wipe (L2.wipe σ ws) vs = L2.wipe σ vs
  | [], _ => rfl
  | w :: ws, h => by
    show L2.wipe ((L2.wipe σ ws).set w none) vs = _
    rw [wipe_set_in (h w List.mem_cons_self), wipe_idem fun z hz => h z (List.mem_cons_of_mem _ hz)]
abbrev W0 : WX := fun _ _ _ _ => False
/-- the list being made -/
def lcL (g : D → En → Option En) (mt : En → M Bool) (me : En → M Val) (env0 : En) : List D → List D → M (List D)
  | [], acc => fun s => .ok acc s
  | x :: xs, acc => fun s => match g x env0 with
    | none => .bad
    | some env1 => match mt env1 s with
      | .ok true s1 => match stl me env1 s1 with
        | .ok (.d y) s2 => if acc.length < sizeLine then lcL g mt me env0 xs (acc ++ [y]) s2 else .bad
        | _ => .bad
      | .ok false s1 => lcL g mt me env0 xs acc s1
      | _ => .bad
def eLc (vs : List Nat) (mi : En → M (List D)) (g : D → En → Option En) (mt : En → M Bool) (me : En → M Val) : En → M Val := fun env => bnd (mi env) fun xs => bnd (lcL g mt me (wipeE env vs) xs []) fun ds s => .ok (Val.f [([], .lst ds)]) s
def tYesM : En → M Bool := fun _ => ret true
structure DTs (X : Cx) (Y : FC) (W : WX) (ifs : List Expr) (m : En → M Bool) : Prop where
  pts : PTs X ifs (tT X Y W m)
theorem dts_nil {X : Cx} {Y : FC} {W : WX} : DTs X Y W [] tYesM := ⟨⟨fun pins s σ H Q I ⟨G, AD, Fr, env, st, S, p⟩ => pts_nil.run pins s σ H Q I (p G AD H (Same.refl _) Ext.refl S.ss)⟩⟩
theorem dts_one {X : Cx} {Y : FC} {W : WX} {c : Expr} {m : En → M Bool} (h : DT X Y W c m) : DTs X Y W [c] m := ⟨pts_one h.pt⟩
theorem SimS.pushAt {T : TX} {G : Hp} {AD : AM} {Fr : Hp} {s : Sto} {H : Hp} {D : Addr} {vs : List V} {ds : List DL.D} (S : SimS T G AD (upd Fr D (.lst vs)) s H) (hF : Fr D = none) (r : RepL T G vs ds) :
    SimS T G (adPut AD s.length fun _ => D) Fr (s ++ [some [([], .lst ds)]]) H := by
  have hH : H D = some (.lst vs) := S.fr D _ upd_same
  have hG : G D = none := S.fg D _ upd_same
  have S1 := S.put (f := fun _ => D)
  have old : ∀ l q o, res (s ++ [some [([], O.lst ds)]]) l q = some o → (res s l q = some o ∧ l ≠ s.length) ∨ (l = s.length ∧ q = [] ∧ o = .lst ds) := fun l q o h => by
    by_cases hl : l = s.length
    · subst hl
      rw [res_last] at h
      refine .inr ⟨rfl, ?_⟩
      cases q with
      | nil => exact ⟨rfl, by have h2 : some (O.lst ds) = some o := h; exact (Option.some.inj h2).symm⟩
      | cons a b => have h2 : (none : Option O) = some o := h; cases h2
    · rw [res_append hl] at h
      exact .inl ⟨h, hl⟩
  have npx : ∀ l q o, res s l q = some o → AD l q ≠ D := fun l q o h e => by
    have := S.nf l q o h
    rw [e, upd_same] at this; cases this
  have fr1 : ∀ a o, Fr a = some o → upd Fr D (.lst vs) a = some o := fun a o e => by
    rw [upd_ne (fun z => by rw [z, hF] at e; cases e)]; exact e
  refine ⟨S1.gh, fun a o e => S1.fr a o (fr1 a o e), fun a o e => S1.fg a o (fr1 a o e), fun l q o h => ?_, fun l q o h => ?_, fun l q o h => ?_, fun l q o l' q' o' h h' e => ?_, fun l t h => ?_⟩
  · rcases old l q o h with ⟨h, _⟩ | ⟨rfl, rfl, rfl⟩
    · exact S1.nd l q o h
    · rw [adPut_same]; exact ⟨vs, hH, r⟩
  · rcases old l q o h with ⟨h, _⟩ | ⟨rfl, rfl, rfl⟩
    · exact S1.ng l q o h
    · rw [adPut_same]; exact hG
  · rcases old l q o h with ⟨h, hl⟩ | ⟨rfl, rfl, rfl⟩
    · rw [adPut_ne hl]
      have := S.nf l q o h
      rwa [upd_ne (npx l q o h)] at this
    · rw [adPut_same]; exact hF
  · rcases old l q o h with ⟨k, hl⟩ | ⟨e1, e2, _⟩
    · rcases old l' q' o' h' with ⟨k', hl'⟩ | ⟨e1', e2', _⟩
      · exact S1.inj l q o l' q' o' k k' e
      · rw [e1', e2', adPut_same, adPut_ne hl] at e; exact absurd e (npx l q o k)
    · rcases old l' q' o' h' with ⟨k', hl'⟩ | ⟨e1', e2', _⟩
      · rw [e1, e2, adPut_same, adPut_ne hl'] at e; exact absurd e.symm (npx l' q' o' k')
      · exact ⟨e1.trans e1'.symm, e2.trans e2'.symm⟩
  · by_cases hl : l < s.length
    · rw [List.getElem?_append_left hl] at h; exact S.rt l t h
    · have c2 : l = s.length := by
        have := (List.getElem?_eq_some_iff.mp h).1
        rw [List.length_append, List.length_singleton] at this
        omega
      rw [c2, List.getElem?_append_right (Nat.le_refl _), Nat.sub_self] at h
      cases h
      exact ⟨_, rfl⟩
/-- the frame's list, written -/
theorem SimS.frame {T : TX} {G : Hp} {AD : AM} {Fr : Hp} {s : Sto} {H : Hp} {D : Addr} {vs ws : List V} (S : SimS T G AD (upd Fr D (.lst vs)) s H) (hF : Fr D = none) : SimS T G AD (upd Fr D (.lst ws)) s (upd H D (.lst ws)) := by
  have hG : G D = none := S.fg D _ upd_same
  have npx : ∀ l q o, res s l q = some o → AD l q ≠ D := fun l q o h e => by
    have := S.nf l q o h
    rw [e, upd_same] at this; cases this
  refine ⟨fun a o e => ?_, fun a o e => ?_, fun a o e => ?_, fun l q o h => ?_, S.ng, fun l q o h => ?_, S.inj, S.rt⟩
  · rw [upd_ne (fun z => by rw [z, hG] at e; cases e)]; exact S.gh a o e
  · by_cases ha : a = D
    · subst ha; rw [upd_same] at e ⊢; exact e
    · rw [upd_ne ha] at e ⊢
      exact S.fr a o (by rw [upd_ne ha]; exact e)
  · by_cases ha : a = D
    · subst ha; exact hG
    · rw [upd_ne ha] at e
      exact S.fg a o (by rw [upd_ne ha]; exact e)
  · have hne := npx l q o h
    have k := S.nd l q o h
    cases o with
    | lst xs => obtain ⟨vs, h1, h2⟩ := k; exact ⟨vs, by rw [upd_ne hne]; exact h1, h2⟩
    | dct kvs =>
      rcases k with ⟨ks, h1, h2⟩ | ⟨es, h1, h2⟩
      · exact .inl ⟨ks, by rw [upd_ne hne]; exact h1, h2⟩
      · exact .inr ⟨es, by rw [upd_ne hne]; exact h1, h2⟩
    | ins c fs => obtain ⟨C, dx, vfs, h0, h1, h2⟩ := k; exact ⟨C, dx, vfs, h0, by rw [upd_ne hne]; exact h1, h2⟩
  · have := S.nf l q o h
    rw [upd_ne (npx l q o h)] at this ⊢
    exact this
/-- a new list becomes the frame's -/
theorem SimS.toFrame {T : TX} {G : Hp} {AD : AM} {Fr : Hp} {s : Sto} {H : Hp} {D : Addr} (S : SimS T G AD Fr s H) (hD : H D = none) : SimS T G AD (upd Fr D (.lst [])) s (upd H D (.lst [])) := by
  have S1 := S.laid (u := .lst []) hD
  have npx : ∀ l q o, res s l q = some o → AD l q ≠ D := fun l q o h e => by
    obtain ⟨u, hu⟩ := (S.nd l q o h).there
    rw [e, hD] at hu; cases hu
  refine ⟨S1.gh, fun a o e => ?_, fun a o e => ?_, S1.nd, S1.ng, fun l q o h => ?_, S1.inj, S1.rt⟩
  · by_cases ha : a = D
    · subst ha; rw [upd_same] at e ⊢; exact e
    · rw [upd_ne ha] at e
      exact S1.fr a o e
  · by_cases ha : a = D
    · subst ha; exact Same.none S.gh hD
    · rw [upd_ne ha] at e
      exact S.fg a o e
  · rw [upd_ne (npx l q o h)]; exact S.nf l q o h
section
variable {X : Cx} {Y : FC} {W : WX} {elt tg iter : Expr} {ifs : List Expr} {scope : Scope} {own : List (Str × Nat)} {pos : Pos} {mi : En → M (List D)} {g : D → En → Option En} {mt : En → M Bool} {me : En → M Val}
theorem lc_post {σ : L2.St} {H : Hp} {Q : VK} {G : Hp} {AD : AM} {Fr : Hp} {env : En} {s : Sto} {vs : List Nat} (S : SimE (tx X) Y G AD Fr env s σ H) (p : PostR All (tx X) W Fr σ G AD s (eLc vs mi g mt me env s) (CE (tx X) Fr Q)) :
    tLc (tI X Y W mi) (tGm X Y.cl vs g) (tT X Y.cl W0 mt) (tE X Y.cl W0 (stl me)) vs σ H Q := by
  refine stepI S p fun xs s1 G1 AD1 H1 J h1 g1 e1 S1 w p1 => ?_
  obtain ⟨Yd, w1, w2⟩ := w
  intro D hD
  have hF : Fr D = none := Same.none S1.ss.fr hD
  refine lc_it w1 (fun i H => ∃ G2 AD2 s2 acc ws, Same G1 G2 ∧ Ext All s1 AD1 s2 AD2 ∧ SimS (tx X) G2 AD2 (upd Fr D (.lst ws)) s2 H ∧ RepL (tx X) G2 ws acc ∧ PostR All (tx X) W Fr σ G2 AD2 s2 ((lcL g mt me (wipeE env vs) (xs.drop i) acc s2).bnd fun ds s => .ok (Val.f [([], .lst ds)]) s) (CE (tx X) Fr Q)) ⟨G1, AD1, s1, [], [], Same.refl _, Ext.refl, S1.ss.toFrame hD, .nil, p1⟩ ?_ ?_ ?_
  · rintro i H _ ⟨G2, AD2, s2, acc, ws, g2, x2, S2, _⟩
    exact g2.trans S2.gh
  · rintro i x H H' hi ⟨G2, AD2, s2, acc, ws, g2, x2, S2, r2, p2⟩ y
    obtain ⟨d, hd⟩ : ∃ d, xs[i]? = some d := ⟨xs[i], List.getElem?_eq_getElem hi⟩
    have hdrop : xs.drop i = d :: xs.drop (i + 1) := by
      obtain ⟨h1, h2⟩ := List.getElem?_eq_some_iff.mp hd
      rw [← h2]; exact List.drop_eq_getElem_cons h1
    rw [hdrop] at p2
    have c1 : (H' = H ∧ Rep (tx X) G2 x d) ∨ ∃ p u, x = .ref p ∧ H p = none ∧ H' = upd H p u ∧ ∀ G', Same G2 G' → G' p = some u → Rep (tx X) G' (.ref p) d := by
      rcases w2 i H x H' d (g2.trans S2.gh) hd y with ⟨e, r⟩ | ⟨p, u, e1, e2, e3, e4⟩
      · exact .inl ⟨e, r.mono g2⟩
      · exact .inr ⟨p, u, e1, e2, e3, fun G' g' h' => e4 G' (g2.trans g') h'⟩
    have S2E : SimE (tx X) Y.cl G2 AD2 (upd Fr D (.lst ws)) (wipeE env vs) s2 (L2.wipe σ vs) H := ⟨S2, (S1.en.mono g2 x2).wipe vs, Nat.le_trans S1.bl x2.len⟩
    obtain ⟨G3, g3, S3, r3⟩ := item_new S2E c1
    have p3 := PostR.mono p2 g3 (Ext.refl (q := All) (s := s2) (AD := AD2))
    unfold lcL at p3
    cases hgd : g d (wipeE env vs) with
    | none => rw [hgd] at p3; exact p3.elim
    | some env1 =>
      rw [hgd] at p3
      refine ⟨G3, AD2, upd Fr D (.lst ws), wipeE env vs, s2, d, env1, S3, r3, hgd, fun σ' S4 hw => ⟨hw.trans (wipe_idem fun _ h => h), ?_⟩⟩
      dsimp only at p3
      refine ⟨G3, AD2, upd Fr D (.lst ws), env1, s2, S4, ?_⟩
      cases ht : mt env1 s2 with
      | bad => rw [ht] at p3; exact p3
      | exc d' s' => rw [ht] at p3; exact p3.elim
      | ok b s3 =>
        rw [ht] at p3
        intro G4 AD4 H4 g4 x4 S5
        have S5E : SimE (tx X) Y.cl G4 AD4 (upd Fr D (.lst ws)) env1 s3 σ' H4 := ⟨S5, S4.en.mono g4 x4, Nat.le_trans S4.bl x4.len⟩
        cases b with
        | false =>
          refine iteF ⟨G4, AD4, s3, acc, ws, (g2.trans g3).trans g4, x2.trans x4, S5, (r2.mono g3).mono g4, ?_⟩
          exact PostR.mono p3 g4 x4
        | true =>
          refine iteT ⟨G4, AD4, upd Fr D (.lst ws), env1, s3, S5E, ?_⟩
          dsimp only at p3
          cases he : stl me env1 s3 with
          | bad => rw [he] at p3; exact p3
          | exc d' s' => rw [he] at p3; exact p3.elim
          | ok v s4 =>
            rw [he] at p3
            cases v with
            | m l q => exact p3.elim
            | f t => exact p3.elim
            | d z =>
              intro G5 AD5 H5 g5 x5 yv rv
              dsimp only at p3
              by_cases hl : acc.length < sizeLine
              · rw [if_pos hl] at p3
                refine ⟨ws, rv.1.fr D _ upd_same, by rw [((r2.mono g3).mono g4).len]; exact hl, ?_⟩
                refine ⟨G5, AD5, s4, acc ++ [z], ws ++ [yv], ((g2.trans g3).trans g4).trans g5, (x2.trans x4).trans x5, rv.1.frame hF, (((r2.mono g3).mono g4).mono g5).app (.cons rv.2 .nil), ?_⟩
                exact PostR.mono (PostR.mono p3 g4 x4) g5 x5
              · rw [if_neg hl] at p3; exact p3.elim
  · rintro H ⟨G2, AD2, s2, acc, ws, g2, x2, S2, r2, p2⟩
    rw [List.drop_length] at p2
    have p3 : PostR All (tx X) W Fr σ G2 AD2 s2 (.ok (.f [([], .lst acc)]) s2) (CE (tx X) Fr Q) := p2
    refine p3.done (Same.refl _) Ext.put ⟨S2.pushAt hF r2, ?_⟩
    exact congrArg V.ref (congrFun (adPut_same (AD := AD2) (l := s2.length) (f := fun _ => D)).symm [])
theorem de_lc (hc : X.calm = true) (hN : X.N.Nodup) (hi : DI X Y W tg iter mi) (ok : BlkOk X.N X.env.scope scope own)
    (hg : ∀ (s : Shared) (H : Hp) (C : Addr) (cl : List (Str × Addr)) (fp : List Addr), DG (X.blk s H scope (compEnvC scope cl C X.env) fp) Y.cl (own.map (·.2)) tg g)
    (ht : ∀ (s : Shared) (H : Hp) (C : Addr) (cl : List (Str × Addr)) (fp : List Addr), DTs (X.blk s H scope (compEnvC scope cl C X.env) fp) Y.cl W0 ifs mt)
    (he : ∀ (s : Shared) (H : Hp) (C : Addr) (cl : List (Str × Addr)) (fp : List Addr), DE (X.blk s H scope (compEnvC scope cl C X.env) fp) Y.cl W0 elt me)
    (hs : ∀ x, foldedSetIterable iter X.env x = pure x := by intro _; rfl) : DE X Y W (.ListComp elt [⟨tg, iter, ifs, 0⟩] scope pos) (eLc (own.map (·.2)) mi g mt me) :=
  mkE (pe_lc (g := tGm X Y.cl (own.map fun p : Str × Nat => p.2) g) (tt := tT X Y.cl W0 mt) (te := tE X Y.cl W0 (stl me)) hc hN hi.pi ok (fun s H C cl fp => (hg s H C cl fp).pg) (fun s H C cl fp => (ht s H C cl fp).pts) (fun s H C cl fp => (he s H C cl fp).stl.pe) hs) fun σ H Q G AD Fr env s S p => lc_post S p
/-- x = [..] on one line -/
theorem ds_setLc {i : Nat} {y : Str} {py spos : Pos} (hc : X.calm = true) (hN : X.N.Nodup) (hy : X.N[i]? = some y) (hyl : X.env.scope.names.lookup y = some .local)
    (hsw : swapsWith (.ListComp elt [⟨tg, iter, ifs, 0⟩] scope pos) (some (.Name y py)) spos.line X.env = pure true) (hi : DI X Y W tg iter mi) (ok : BlkOk X.N X.env.scope scope own)
    (hg : ∀ (s : Shared) (H : Hp) (C : Addr) (cl : List (Str × Addr)) (fp : List Addr), DG (X.blk s H scope (compEnvC scope cl C X.env) fp) Y.cl (own.map (·.2)) tg g)
    (ht : ∀ (s : Shared) (H : Hp) (C : Addr) (cl : List (Str × Addr)) (fp : List Addr), DTs (X.blk s H scope (compEnvC scope cl C X.env) fp) Y.cl W0 ifs mt)
    (he : ∀ (s : Shared) (H : Hp) (C : Addr) (cl : List (Str × Addr)) (fp : List Addr), DE (X.blk s H scope (compEnvC scope cl C X.env) fp) Y.cl W0 elt me)
    (hs : ∀ x, foldedSetIterable iter X.env x = pure x := by intro _; rfl) : DS X Y W (.Assign [.Name y py] (.ListComp elt [⟨tg, iter, ifs, 0⟩] scope pos) spos) (sSet i (eLc (own.map (·.2)) mi g mt me)) :=
  mkS (ps_setLc (g := tGm X Y.cl (own.map fun p : Str × Nat => p.2) g) (tt := tT X Y.cl W0 mt) (te := tE X Y.cl W0 (stl me)) hc hN hy hyl hsw hi.pi ok (fun s H C cl fp => (hg s H C cl fp).pg) (fun s H C cl fp => (ht s H C cl fp).pts) (fun s H C cl fp => (he s H C cl fp).stl.pe) hs) fun D σ H G AD Fr env s S p => by
    have z := stepSE (ma := eLc (own.map fun p : Str × Nat => p.2) mi g mt me) (k := fun v s1 => (settle v s1).sb env fun v s1 => v.cD (fun x => .ok .nx (env.set i (some (.d x))) s1) .bad) (Q' := fun x H1 => D.nx (σ.set i (some x)) H1) S (by
      have p' : PostS (tx X) Y W Fr G AD s ((stl (eLc (own.map fun p : Str × Nat => p.2) mi g mt me) env s).sb env fun v s1 => v.cD (fun x => .ok .nx (env.set i (some (.d x))) s1) .bad) D := p
      unfold stl bnd at p'
      cases e : eLc (own.map fun p : Str × Nat => p.2) mi g mt me env s with
      | bad => rw [e] at p'; exact p'
      | exc d s' => rw [e] at p'; exact p'
      | ok v s' => rw [e] at p'; exact p') fun v s1 G1 AD1 H1 x h1 g1 e1 S1 r1 p1 => ?_
    · obtain ⟨G', AD', Fr', env', s', S', p'⟩ := z
      exact lc_post S' p'
    · cases v with
      | d y => exact PostS.nx (show PostS (tx X) Y W Fr G1 AD1 s1 (.ok .nx (env.set i (some (.d y))) s1) D from p1) (Same.refl _) Ext.refl ⟨S1.ss, S1.en.set r1.2, S1.bl⟩
      | m l q => exact p1.elim
      | f t =>
        have p2 : PostS (tx X) Y W Fr G1 AD1 s1 ((match fz t with | some d => Res.ok (Val.d d) s1 | none => Res.bad).sb env fun v s1 => v.cD (fun x => .ok .nx (env.set i (some (.d x))) s1) .bad) D := by
          have e : settle (.f t) s1 = (match fz t with | some d => Res.ok (Val.d d) s1 | none => Res.bad) := by
            show (match fz t with | some d => ret (Val.d d) | none => bad) s1 = _
            cases fz t <;> rfl
          rw [← e]; exact p1
        cases hf : fz t with
        | none => rw [hf] at p2; exact p2.elim
        | some d =>
          rw [hf] at p2
          obtain ⟨G', g', r'⟩ := r1.freeze hf
          exact PostS.nx (show PostS (tx X) Y W Fr G1 AD1 s1 (.ok .nx (env.set i (some (.d d))) s1) D from p2) g' Ext.refl ⟨r'.1, (S1.en.mono g' Ext.refl).set r'.2, S1.bl⟩
end
end DL
end

set_option Elab.async false
set_option linter.all false
set_option maxRecDepth 100000
set_option maxHeartbeats 4000000
noncomputable section
namespace DL
open PySem PySem.Spec PyProof.Rows L2

/-! ## methods of built-in types -/
def rBm (T : TX) (g : Val → List Val → M Val) : V → List V → Hp → VK → Prop := fun x xs H Q => ∃ G AD Fr s v vs v' s', SimS T G AD Fr s H ∧ VR T G AD s v x ∧ VRs T G AD s vs xs ∧ g v vs s = .ok v' s' ∧ ∀ G' AD' H' z, Same G G' → Ext All s AD s' AD' → RV T G' AD' Fr s' H' v' z → Q z H'
structure BmD (X : Cx) (id : String) (g : Val → List Val → M Val) : Prop where
  run : MtR X id (rBm (tx X) g)
  nx : ∀ v vs s d s', g v vs s ≠ .exc d s'
def RcvOk (X : Cx) (T : String) (rcv : Val → Sto → Bool) : Prop := ∀ {G : Hp} {AD : AM} {Fr : Hp} {s : Sto} {H : Hp} {v : Val} {x : V}, SimS (tx X) G AD Fr s H → VR (tx X) G AD s v x → rcv v s = true → tyV X.K T x H
def strR (v : Val) (_ : Sto) : Bool := match v with
  | .d (.str _) => true
  | _ => false
def lstR (v : Val) (s : Sto) : Bool := (lstOf s v).isSome
def eBm (rcv : Val → Sto → Bool) (g : Val → List Val → M Val) (mo : En → M Val) (mv : En → M (List Val)) : En → M Val := fun env => bnd (stl mo env) fun v s => if rcv v s = true then (bnd (mv env) fun vs => g v vs) s else .bad
section
variable {X : Cx} {Y : FC} {W : WX} {o e : Expr} {es : List Expr} {mo : En → M Val} {mv : En → M (List Val)} {rcv : Val → Sto → Bool} {g : Val → List Val → M Val} {name : Str} {apos cpos : Pos} {T id : String}
theorem rcv_str : RcvOk X "str" strR := fun {G AD Fr s H v x} S r h => by
  unfold strR at h
  split at h
  · cases (r : Rep (tx X) G x _); rfl
  · cases h
theorem rcv_lst : RcvOk X "list" lstR := fun {G AD Fr s H v x} S r h => by
  unfold lstR at h
  obtain ⟨xs, hx⟩ := Option.isSome_iff_exists.mp h
  obtain ⟨a, vs, rfl, h1, h2⟩ := lst_at S r hx
  exact .inl ⟨rfl, _, SqL.of h1⟩
theorem bm_post {σ : L2.St} {H : Hp} {Q : VK} {G : Hp} {AD : AM} {Fr : Hp} {env : En} {s : Sto} (nx : ∀ v vs s d s', g v vs s ≠ .exc d s') (hr : RcvOk X T rcv) (S : SimE (tx X) Y G AD Fr env s σ H) (p : PostR All (tx X) W Fr σ G AD s (eBm rcv g mo mv env s) (CE (tx X) Fr Q)) :
    tBM X.K T (rBm (tx X) g) (tE X Y W (stl mo)) (tV X Y W mv) σ H Q := by
  refine stepE S p fun v s1 G1 AD1 H1 x h1 g1 e1 S1 r1 p1 => ?_
  have r2 := r1.vr (stl_notf h1)
  split at p1
  · rename_i hc
    refine ⟨hr S1.ss r2 hc, ?_⟩
    refine stepV S1 p1 fun vs s2 G2 AD2 H2 xs h2 g2 e2 S2 rs p2 => ?_
    cases hq : g v vs s2 with
    | bad => rw [hq] at p2; exact p2.elim
    | exc d s3 => exact absurd hq (nx _ _ _ _ _)
    | ok w s3 => rw [hq] at p2; exact ⟨G2, AD2, Fr, s2, v, vs, w, s3, S2.ss, r2.mono g2 e2, rs, hq, fun G' AD' H' z g e r => p2.done g e r⟩
  · exact p1.elim
theorem de_bm (pa : PlainAttrs T) (slot : Slot T name id) (hty : typeOf (.builtin id) = pure (.type "method_descriptor")) (hr : RcvOk X T rcv) (hm : BmD X id g) (ho : DE X Y W o mo) (ha : DV X Y W (e :: es) mv)
    (hbase : attributeBase o name X.env (eval o X.env) = eval o X.env := by rfl)
    (hfew : ((backTo cpos (starEach (e :: es) X.env)).all (fun x => !x.1) && (backToKw cpos (keywordEach [] X.env)).all (fun x => x.1.isSome)
      && decide ((e :: es).length + ([] : List Keyword).length + (if ([] : List Keyword).isEmpty then 0 else 1) < 30)) = true := by rfl)
    (hline : (apos.endLine == cpos.line) = true := by rfl) (hs : starEach (e :: es) X.env = (false, eval e X.env) :: starEach es X.env := by rfl) (hplain : (backTo cpos (starEach es X.env)).any (·.1) = false := by rfl) :
    DE X Y W (.Call (.Attribute o name apos) (e :: es) [] cpos) (eBm rcv g mo mv) :=
  mkE (pe_bm pa slot hty hm.run ho.stl.pe ha.pa hbase hfew hline hs hplain) fun σ H Q G AD Fr env s S p => bm_post hm.nx hr S p
theorem de_bm0 (pa : PlainAttrs T) (slot : Slot T name id) (hty : typeOf (.builtin id) = pure (.type "method_descriptor")) (hr : RcvOk X T rcv) (hm : BmD X id g) (ho : DE X Y W o mo)
    (hbase : attributeBase o name X.env (eval o X.env) = eval o X.env := by rfl) (hline : (apos.endLine == cpos.line) = true := by rfl) :
    DE X Y W (.Call (.Attribute o name apos) [] [] cpos) (eBm rcv g mo vNil) :=
  mkE (pe_bm0 pa slot hty hm.run ho.stl.pe hbase hline) fun σ H Q G AD Fr env s S p => by
    refine stepE S p fun v s1 G1 AD1 H1 x h1 g1 e1 S1 r1 p1 => ?_
    have r2 := r1.vr (stl_notf h1)
    split at p1
    · rename_i hc
      refine ⟨hr S1.ss r2 hc, ?_⟩
      have p2 : PostR All (tx X) W Fr σ G1 AD1 s1 (g v [] s1) (CE (tx X) Fr Q) := p1
      cases hq : g v [] s1 with
      | bad => rw [hq] at p2; exact p2.elim
      | exc d s3 => exact absurd hq (hm.nx _ _ _ _ _)
      | ok w s3 => rw [hq] at p2; exact ⟨G1, AD1, Fr, s1, v, [], w, s3, S1.ss, r2, .nil, hq, fun G' AD' H' z g e r => p2.done g e r⟩
    · exact p1.elim
end
theorem RepL.dropLast {T : TX} {G : Hp} : ∀ {vs : List V} {xs : List D}, RepL T G vs xs → RepL T G vs.dropLast xs.dropLast
  | _, _, .nil => .nil
  | _, _, .cons _ .nil => .nil
  | _, _, .cons q (.cons q2 r) => by
    rw [List.dropLast_cons₂, List.dropLast_cons₂]
    exact .cons q (RepL.dropLast (.cons q2 r))
def appendG : Val → List Val → M Val := fun v vs s => match v, vs with
  | .m l p, [.d y] => match res s l p with
    | some (.lst xs) => if xs.length < sizeLine then .ok (.d .non) (upS s l p (.lst (xs ++ [y]))) else .bad
    | _ => .bad
  | _, _ => .bad
def popG : Val → List Val → M Val := fun v vs s => match v, vs with
  | .m l p, [] => match res s l p with
    | some (.lst xs) => match xs[xs.length - 1]? with
      | some y => .ok (.d y) (upS s l p (.lst xs.dropLast))
      | none => .bad
    | _ => .bad
  | _, _ => .bad
def splitG : Val → List Val → M Val := fun v vs s => match v, vs with
  | .d (.str a), [.d (.str b)] => if (b.length == 0) = false ∧ a.length + 2 ≤ sizeLine then .ok (.f [([], .lst ((Txt.split a b).map .str))]) s else .bad
  | _, _ => .bad
def joinG : Val → List Val → M Val := fun v vs s => match v, vs with
  | .d (.str a), [w] => match (seqOf s w).bind strsOf with
    | some ys => if (ys.map (·.length)).sum + ys.length * a.length ≤ 16777216 then .ok (.d (.str (Txt.join a ys))) s else .bad
    | none => .bad
  | _, _ => .bad
def countG : Val → List Val → M Val := fun v vs s => match v, vs with
  | .d (.str a), [.d (.str b)] => .ok (.d (.int (Txt.count a b))) s
  | _, _ => .bad
def findG : Val → List Val → M Val := fun v vs s => match v, vs with
  | .d (.str a), [.d (.str b)] => .ok (.d (.int (Txt.find a b))) s
  | _, _ => .bad
def partG : Val → List Val → M Val := fun v vs s => match v, vs with
  | .d (.str a), [.d (.str b)] => if (b.length == 0) = false ∧ a.length ≤ sizeLine then .ok (.d (.tup [.str (Txt.partition a b).1, .str (Txt.partition a b).2.1, .str (Txt.partition a b).2.2])) s else .bad
  | _, _ => .bad
section
variable {X : Cx}
theorem bm_mk {id : String} {g : Val → List Val → M Val} (nx : ∀ v vs s d s', g v vs s ≠ .exc d s') (h : ∀ (pins : List (Addr × Obj)) (s : Shared) (σ : L2.St) (H : Hp) (u : Value) (us : List Value) (Q : VK) (G : Hp) (AD : AM) (Fr : Hp) (st : Sto) (v : Val) (x : V) (vs : List Val) (xs : List V) (v' : Val) (st' : Sto), Inv X pins σ H s → RelV x u → Vals xs us → SimS (tx X) G AD Fr st H → VR (tx X) G AD st v x → VRs (tx X) G AD st vs xs → g v vs st = .ok v' st' →
    (∀ G' AD' H' z, Same G G' → Ext All st AD st' AD' → RV (tx X) G' AD' Fr st' H' v' z → Q z H') → wpAny (model X.prog X.w) X.A (call (.builtin id) (u :: us)) (EP X pins σ Q) X.xe s) : BmD X id g :=
  ⟨fun pins s σ H x xs u us Q I ru r ⟨G, AD, Fr, st, v, vs, v', s', S, rx, rs, e, q⟩ => h pins s σ H u us Q G AD Fr st v x vs xs v' s' I ru r S rx rs e q, nx⟩
theorem bm_append : BmD X "list.append" appendG := bm_mk (g := appendG) (by intro v vs s d s'; unfold appendG; (repeat' split) <;> exact fun z => nomatch z) fun pins s σ H u us Q G AD Fr st v x vs xs v' st' I ru r S rx rs e q => by
  unfold appendG at e
  split at e
  · split at e
    · rename_i ys hs
      split at e
      · rename_i hl
        cases e
        cases rs with
        | cons ry t =>
          cases t
          obtain ⟨ws, h1, h2⟩ := S.nd _ _ _ hs
          rw [rx.2 _ hs] at ru
          have ry' : Rep (tx X) G _ _ := ry
          refine mt_append pins s σ H _ _ u us Q I ru r ⟨_, ws, _, rfl, rfl, h1, by rw [h2.len]; exact hl, ?_⟩
          exact q G AD _ _ (Same.refl _) (Ext.upS hs) ⟨S.write hs ⟨_, upd_same, h2.app (.cons ry' .nil)⟩, .non⟩
      · cases e
    · cases e
  · cases e
theorem bm_pop : BmD X "list.pop" popG := bm_mk (g := popG) (by intro v vs s d s'; unfold popG; (repeat' split) <;> exact fun z => nomatch z) fun pins s σ H u us Q G AD Fr st v x vs xs v' st' I ru r S rx rs e q => by
  unfold popG at e
  split at e
  · split at e
    · rename_i ys hs
      split at e
      · rename_i y hy
        cases e
        cases rs
        obtain ⟨ws, h1, h2⟩ := S.nd _ _ _ hs
        rw [rx.2 _ hs] at ru
        rw [← h2.len] at hy
        obtain ⟨w, k1, k2⟩ := h2.get hy
        refine mt_pop pins s σ H _ _ u us Q I ru r ⟨_, ws, w, rfl, rfl, h1, k1, ?_⟩
        exact q G AD _ _ (Same.refl _) (Ext.upS hs) ⟨S.write hs ⟨_, upd_same, h2.dropLast⟩, k2⟩
      · cases e
    · cases e
  · cases e
theorem repL_strs {T : TX} {G : Hp} : ∀ ys : List Str, RepL T G (ys.map V.str) (ys.map D.str)
  | [] => .nil
  | y :: ys => .cons (.str y) (repL_strs ys)
theorem bm_split : BmD X "str.split" splitG := bm_mk (g := splitG) (by intro v vs s d s'; unfold splitG; (repeat' split) <;> exact fun z => nomatch z) fun pins s σ H u us Q G AD Fr st v x vs xs v' st' I ru r S rx rs e q => by
  unfold splitG at e
  split at e
  · split at e
    · rename_i hc
      cases e
      cases rs with
      | cons ry t =>
        cases t; cases rx; cases ry
        exact mt_split pins s σ H _ _ u us Q I ru r ⟨_, _, rfl, rfl, hc.1, hc.2, fun p hp => q G _ _ _ (Same.refl _) Ext.put (RV.new S hp ⟨_, upd_same, repL_strs _⟩)⟩
    · cases e
  · cases e
theorem bm_join : BmD X "str.join" joinG := bm_mk (g := joinG) (by intro v vs s d s'; unfold joinG; (repeat' split) <;> exact fun z => nomatch z) fun pins s σ H u us Q G AD Fr st v x vs xs v' st' I ru r S rx rs e q => by
  unfold joinG at e
  split at e
  · split at e
    · rename_i ys hb
      split at e
      · rename_i hc
        cases e
        cases rs with
        | cons ry t =>
          cases t; cases rx
          obtain ⟨zs, h1, h2⟩ := Option.bind_eq_some_iff.mp hb
          obtain ⟨a, ws, rfl, h3, h4⟩ := seq_at S ry h1
          have := strsOf_rep h4 h2
          subst this
          exact mt_join pins s σ H _ _ u us Q I ru r ⟨_, _, _, rfl, rfl, h3, hc, q G AD H _ (Same.refl _) Ext.refl ⟨S, .str _⟩⟩
      · cases e
    · cases e
  · cases e
theorem bm_count : BmD X "str.count" countG := bm_mk (g := countG) (by intro v vs s d s'; unfold countG; (repeat' split) <;> exact fun z => nomatch z) fun pins s σ H u us Q G AD Fr st v x vs xs v' st' I ru r S rx rs e q => by
  unfold countG at e
  split at e
  · cases e
    cases rs with
    | cons ry t =>
      cases t; cases rx; cases ry
      exact mt_count pins s σ H _ _ u us Q I ru r ⟨_, _, rfl, rfl, q G AD H _ (Same.refl _) Ext.refl ⟨S, .int _⟩⟩
  · cases e
theorem bm_find : BmD X "str.find" findG := bm_mk (g := findG) (by intro v vs s d s'; unfold findG; (repeat' split) <;> exact fun z => nomatch z) fun pins s σ H u us Q G AD Fr st v x vs xs v' st' I ru r S rx rs e q => by
  unfold findG at e
  split at e
  · cases e
    cases rs with
    | cons ry t =>
      cases t; cases rx; cases ry
      exact mt_find pins s σ H _ _ u us Q I ru r ⟨_, _, rfl, rfl, q G AD H _ (Same.refl _) Ext.refl ⟨S, .int _⟩⟩
  · cases e
theorem bm_part : BmD X "str.partition" partG := bm_mk (g := partG) (by intro v vs s d s'; unfold partG; (repeat' split) <;> exact fun z => nomatch z) fun pins s σ H u us Q G AD Fr st v x vs xs v' st' I ru r S rx rs e q => by
  unfold partG at e
  split at e
  · split at e
    · rename_i hc
      cases e
      cases rs with
      | cons ry t =>
        cases t; cases rx; cases ry
        refine mt_partition pins s σ H _ _ u us Q I ru r ⟨_, _, rfl, rfl, hc.1, hc.2, fun p hp => ?_⟩
        obtain ⟨G', k1, k2⟩ := RV.newI (d := .tup [.str _, .str _, .str _]) S hp fun G' gg e => .tup (SqT.of e) (.cons (.str _) (.cons (.str _) (.cons (.str _) .nil)))
        exact q _ AD _ _ k1 Ext.refl k2
    · cases e
  · cases e
end
/-! ## o[i] = e -/
def rSt (T : TX) (w : Val → Val → D → Sto → Option Sto) : TSet := fun o i v H Q => ∃ G AD Fr s vo vi d s', SimS T G AD Fr s H ∧ VR T G AD s vo o ∧ VR T G AD s vi i ∧ Rep T G v d ∧ w vo vi d s = some s' ∧ ∀ G' AD' H', Same G G' → Ext All s AD s' AD' → SimS T G' AD' Fr s' H' → Q H'
structure StD (X : Cx) (w : Val → Val → D → Sto → Option Sto) : Prop where
  run : PSet X (rSt (tx X) w)
def setLst : Val → Val → D → Sto → Option Sto := fun o i d s => match o, i with
  | .m l p, .d (.int k) => match res s l p with
    | some (.lst xs) => match ixN xs.length k with
      | some j => some (upS s l p (.lst (xs.set j d)))
      | none => none
    | _ => none
  | _, _ => none
def sStore (w : Val → Val → D → Sto → Option Sto) (mo mi mv : En → M Val) : SM := fun env s => (stl mv env s).sb env fun v s1 => v.cD (fun x => (stl mo env s1).sb env fun o s2 => (stl mi env s2).sb env fun i s3 => match w o i x s3 with
  | some s4 => .ok .nx env s4
  | none => .bad) .bad
def stOr (a b : Val → Val → D → Sto → Option Sto) : Val → Val → D → Sto → Option Sto := fun o i d s => match a o i d s with
  | some s' => some s'
  | none => b o i d s
section
variable {X : Cx} {Y : FC} {W : WX} {o i e : Expr} {mo mi mv : En → M Val} {w w2 : Val → Val → D → Sto → Option Sto} {pos p2 : Pos}
theorem st_or (a : StD X w) (b : StD X w2) : StD X (stOr w w2) := ⟨fun pins s σ H o i v ov iv u Q I r1 r2 r3 ⟨G, AD, Fr, st, vo, vi, d, s', S, k1, k2, k3, e, q⟩ => by
  unfold stOr at e
  split at e
  · rename_i s1 e1
    cases e
    exact a.run pins s σ H o i v ov iv u Q I r1 r2 r3 ⟨G, AD, Fr, st, vo, vi, d, _, S, k1, k2, k3, e1, q⟩
  · exact b.run pins s σ H o i v ov iv u Q I r1 r2 r3 ⟨G, AD, Fr, st, vo, vi, d, s', S, k1, k2, k3, e, q⟩⟩
theorem st_list : StD X setLst := ⟨fun pins s σ H o i v ov iv u Q I r1 r2 r3 ⟨G, AD, Fr, st, vo, vi, d, s', S, k1, k2, k3, e, q⟩ => by
  unfold setLst at e
  split at e
  · split at e
    · rename_i xs hs
      split at e
      · rename_i j hj
        cases e
        obtain ⟨ws, h1, h2⟩ := S.nd _ _ _ hs
        cases (k2 : Rep (tx X) G i _)
        rw [k1.2 _ hs] at r1
        exact set_list pins s σ H _ _ v ov iv u Q I r1 r2 r3 ⟨_, ws, _, j, rfl, rfl, h1, by rw [h2.len]; exact hj, q G AD _ (Same.refl _) (Ext.upS hs) (S.write hs ⟨_, upd_same, h2.set k3 j⟩)⟩
      · cases e
    · cases e
  · cases e⟩
theorem ds_store (hw : StD X w) (ho : DE X Y W o mo) (hi : DE X Y W i mi) (hv : DE X Y W e mv)
    (ha : ∀ v, assign (.Subscript o i p2) X.env v = (do
      let ov ← holding [v] (eval o X.env)
      let iv ← holding [v, ov] (eval i X.env)
      standAt p2
      holding [v, ov, iv] (setItem ov iv v)
      release [v, ov, iv] []) := by intro _; rfl)
    (hs : swapsWithSole [.Subscript o i p2] e pos.line X.env = pure false := by rfl) (hsw : swappedStores [.Subscript o i p2] e X.env = pure none := by rfl) (h1 : (assignEach [.Subscript o i p2] X.env).map (·.2) = [assign (.Subscript o i p2) X.env] := by rfl) :
    DS X Y W (.Assign [.Subscript o i p2] e pos) (sStore w mo mi mv) := mkS (ps_asg hv.stl.pe (pg_sub ho.stl.pe hi.stl.pe hw.run ha) hs hsw h1) fun D σ H G AD Fr env s S p => by
  refine stepSE S p fun v s1 G1 AD1 H1 x h1 g1 e1 S1 r1 p1 => ?_
  refine d_case (k := fun x s1 => (stl mo env s1).sb env fun o s2 => (stl mi env s2).sb env fun i s3 => match w o i x s3 with
    | some s4 => .ok .nx env s4
    | none => .bad) r1 p1 fun y hy ry p2 => ?_
  refine stepSE S1 p2 fun vo s2 G2 AD2 H2 xo h2 g2 e2 S2 r2 p3 => ?_
  refine stepSE S2 p3 fun vi s3 G3 AD3 H3 xi h3 g3 e3 S3 r3 p4 => ?_
  cases hq : w vo vi y s3 with
  | none => rw [hq] at p4; exact p4.elim
  | some s4 =>
    rw [hq] at p4
    exact ⟨G3, AD3, Fr, s3, vo, vi, y, s4, S3.ss, (r2.vr (stl_notf h2)).mono g3 e3, r3.vr (stl_notf h3), (ry.mono g2).mono g3, hq, fun G' AD' H' g e r => PostS.nx p4 g (e.mono fun _ _ => trivial) ⟨r, S3.en.mono g e, Nat.le_trans S3.bl e.len⟩⟩
end
end DL
end

set_option Elab.async false
set_option linter.all false
set_option maxRecDepth 100000
set_option maxHeartbeats 4000000
noncomputable section
namespace DL
open PySem PySem.Spec PyProof.Rows L2

/-! ## ranges, enumerate, zip -/
def rngD (lo : Int) (n : Nat) : List D := (List.range n).map fun k => .int (lo + (k : Nat))
theorem walkD_range {T : TX} {G : Hp} {lo : Int} {n : Nat} : WalkD T G (Itr lo n) (rngD lo n) := by
  refine ⟨YFn fun i => .int (lo + i), ?_, fun i H v H' d g hx y => ?_⟩
  · rw [show (rngD lo n).length = n by simp [rngD]]
    exact (walk_range (lo := lo) (n := n)).mono (fun H g => trivial) fun i H x H' _ _ y => y
  · obtain ⟨y1, y2⟩ := y
    refine .inl ⟨y1, ?_⟩
    unfold rngD at hx
    rw [List.getElem?_map] at hx
    obtain ⟨k, hk, e⟩ := Option.map_eq_some_iff.mp hx
    rw [List.getElem?_range] at hk
    · cases hk
      rw [y2, ← e]
      exact .int _
    · have := (List.getElem?_eq_some_iff.mp hk).1
      simpa using this
def itRng1 (mv : En → M (List Val)) : En → M (List D) := fun env => bnd (mv env) fun vs s => match vs with
  | [.d (.int j)] => if -(2 ^ 62) ≤ j ∧ j < 2 ^ 62 then .ok (rngD 0 j.toNat) s else .bad
  | _ => .bad
def itRng2 (mv : En → M (List Val)) : En → M (List D) := fun env => bnd (mv env) fun vs s => match vs with
  | [.d (.int i), .d (.int j)] => if -(2 ^ 62) ≤ i ∧ i < 2 ^ 62 ∧ -(2 ^ 62) ≤ j ∧ j < 2 ^ 62 then .ok (rngD i (j - i).toNat) s else .bad
  | _ => .bad
def enumD (xs : List D) : List D := xs.zipIdx.map fun p => .tup [.int (p.2 : Nat), p.1]
def zipD (xs ys : List D) : List D := (xs.zip ys).map fun p => .tup [p.1, p.2]
/-- the list must not change -/
def itEnum (mv : En → M (List Val)) : En → M (List D) := fun env => bnd (mv env) fun vs s => match vs with
  | [.d (.lst xs)] => .ok (enumD xs) s
  | _ => .bad
def itZip (mv : En → M (List Val)) : En → M (List D) := fun env => bnd (mv env) fun vs s => match vs with
  | [.d (.lst xs), .d (.lst ys)] => .ok (zipD xs ys) s
  | [.d (.tup xs), .d (.tup ys)] => .ok (zipD xs ys) s
  | _ => .bad
section
variable {X : Cx} {Y : FC} {W : WX} {a b tg : Expr} {mv : En → M (List Val)} {p pos tpos : Pos} {elts : List Expr} {kk : Nat}
theorem piImp {tg it : Expr} {t t' : TI} (h : PI X tg it t) (i : ∀ σ H R, t' σ H R → t σ H R) : PI X tg it t' := ⟨fun pins s σ H R I q => h.run pins s σ H R I (i σ H R q)⟩
theorem VRs.one {T : TX} {G : Hp} {AD : AM} {s : Sto} {v : Val} {xs : List V} (h : VRs T G AD s [v] xs) : ∃ x, xs = [x] ∧ VR T G AD s v x := by
  cases h with
  | cons r t => cases t; exact ⟨_, rfl, r⟩
theorem VRs.two {T : TX} {G : Hp} {AD : AM} {s : Sto} {v w : Val} {xs : List V} (h : VRs T G AD s [v, w] xs) : ∃ x y, xs = [x, y] ∧ VR T G AD s v x ∧ VR T G AD s w y := by
  cases h with
  | cons r t =>
    cases t with
    | cons r2 t => cases t; exact ⟨_, _, rfl, r, r2⟩
theorem di_rng1 (hg : Gl X "range") (hm : X.mg "range" = none) (ha : DV X Y W [a] mv) (hs : starEach [a] X.env = [(false, eval a X.env)] := by rfl) : DI X Y W tg (.Call (.Name "range" p) [a] [] pos) (itRng1 mv) :=
  ⟨piImp (pi_range1 hg hm ha.pa hs) fun σ H R ⟨G, AD, Fr, env, s, S, p⟩ => by
    refine stepV S p fun vs s1 G1 AD1 H1 xs h1 g1 e1 S1 rs p1 => ?_
    split at p1
    · split at p1
      · rename_i j hj
        obtain ⟨x, rfl, r⟩ := rs.one
        cases (r : Rep (tx X) G1 x (.int j))
        exact ⟨j, rfl, hj.1, hj.2, p1 G1 AD1 H1 (Same.refl _) Ext.refl S1.ss _ walkD_range⟩
      · exact p1.elim
    · exact p1.elim⟩
theorem di_rng2 (hg : Gl X "range") (hm : X.mg "range" = none) (ha : DV X Y W [a, b] mv) (hs : starEach [a, b] X.env = [(false, eval a X.env), (false, eval b X.env)] := by rfl) (hs2 : starEach [b] X.env = [(false, eval b X.env)] := by rfl) : DI X Y W tg (.Call (.Name "range" p) [a, b] [] pos) (itRng2 mv) :=
  ⟨piImp (pi_range2 hg hm ha.pa hs hs2) fun σ H R ⟨G, AD, Fr, env, s, S, p⟩ => by
    refine stepV S p fun vs s1 G1 AD1 H1 xs h1 g1 e1 S1 rs p1 => ?_
    split at p1
    · split at p1
      · rename_i i j hj
        obtain ⟨x, y, rfl, r, r2⟩ := rs.two
        cases (r : Rep (tx X) G1 x (.int i))
        cases (r2 : Rep (tx X) G1 y (.int j))
        exact ⟨i, j, rfl, hj, p1 G1 AD1 H1 (Same.refl _) Ext.refl S1.ss _ walkD_range⟩
      · exact p1.elim
    · exact p1.elim⟩
theorem walkD_enum {T : TX} {G : Hp} {a : Addr} {vs : List V} {xs : List D} (h : SqL T.K G a vs) (r : RepL T G vs xs) : WalkD T G (Ite T.K a) (enumD xs) := by
  refine ⟨YPair (fun i => some (.int (i : Nat))) (fun i => vs[i]?), ?_, fun i H v H' d g hx y => ?_⟩
  · rw [show (enumD xs).length = vs.length by simp [enumD, r.len]]
    exact (walk_enum (K := T.K) (a := a) (xs := vs)).mono (fun H g => Same.seq g h) fun i H x H' _ _ y => y
  · obtain ⟨p, v1, v2, rfl, hp, rfl, h3, h4⟩ := y
    unfold enumD at hx
    rw [List.getElem?_map] at hx
    obtain ⟨q, hq, e⟩ := Option.map_eq_some_iff.mp hx
    rw [List.getElem?_zipIdx] at hq
    obtain ⟨z, hz, e2⟩ := Option.map_eq_some_iff.mp hq
    obtain ⟨w, k1, k2⟩ := r.get hz
    cases k1.symm.trans (show vs[i]? = some v2 from h4); cases h3
    refine .inr ⟨p, _, rfl, hp, rfl, fun G1 g1 hG => ?_⟩
    rw [← e, ← e2]
    refine .tup (SqT.of hG) (.cons ?_ (.cons (k2.mono g1) .nil))
    rw [Nat.zero_add]; exact .int _
theorem walkD_zip {T : TX} {G : Hp} {a b : Addr} {vs ws : List V} {xs ys : List D} (h : SqL T.K G a vs) (r : RepL T G vs xs) (h' : SqL T.K G b ws) (r' : RepL T G ws ys) : WalkD T G (Itz T.K a b) (zipD xs ys) := by
  refine ⟨YPair (fun i => vs[i]?) (fun i => ws[i]?), ?_, fun i H v H' d g hx y => ?_⟩
  · exact (walk_zip (K := T.K) (a := a) (b := b) (xs := vs) (ys := ws) (n := (zipD xs ys).length) (by simp [zipD, r.len, r'.len])).mono (fun H g => ⟨Same.seq g h, Same.seq g h'⟩) fun i H x H' _ _ y => y
  · obtain ⟨p, v1, v2, rfl, hp, rfl, h3, h4⟩ := y
    unfold zipD at hx
    rw [List.getElem?_map] at hx
    obtain ⟨q, hq, e⟩ := Option.map_eq_some_iff.mp hx
    obtain ⟨z1, z2, hz⟩ : ∃ z1 z2, q = (z1, z2) := ⟨q.1, q.2, rfl⟩
    subst hz
    rw [List.getElem?_zip_eq_some] at hq
    obtain ⟨w1, k1, k2⟩ := r.get hq.1
    obtain ⟨w2, k3, k4⟩ := r'.get hq.2
    cases k1.symm.trans (show vs[i]? = some v1 from h3); cases k3.symm.trans (show ws[i]? = some v2 from h4)
    refine .inr ⟨p, _, rfl, hp, rfl, fun G1 g1 hG => ?_⟩
    rw [← e]
    exact .tup (SqT.of hG) (.cons (k2.mono g1) (.cons (k4.mono g1) .nil))
theorem walk_zipTT {K : PySem.W.Frag} {a b : Addr} {xs ys : List V} {n : Nat} (hn : n = min xs.length ys.length) : Walk (RZ.ItzT K a b) n (fun H => SqT K H a xs ∧ SqT K H b ys) (YPair (fun i => xs[i]?) (fun i => ys[i]?)) := by
  subst hn
  refine ⟨fun i _ hi q => ?_, fun _ q => ⟨xs, ys, q.1, q.2, by omega⟩, fun i H v H' _ q y => ?_⟩
  · have h1 : i < xs.length := by omega
    have h2 : i < ys.length := by omega
    exact ⟨xs, ys, xs[i], ys[i], q.1, q.2, by simp [h1], by simp [h2]⟩
  · obtain ⟨T, x, z, h1, h2, h3, h4, h5⟩ := y
    exact ⟨T, x, z, h1, h2, h3, h4 xs q.1, h5 ys q.2⟩
theorem walkD_zipT {T : TX} {G : Hp} {a b : Addr} {vs ws : List V} {xs ys : List D} (h : SqT T.K G a vs) (r : RepL T G vs xs) (h' : SqT T.K G b ws) (r' : RepL T G ws ys) : WalkD T G (RZ.ItzT T.K a b) (zipD xs ys) := by
  refine ⟨YPair (fun i => vs[i]?) (fun i => ws[i]?), ?_, fun i H v H' d g hx y => ?_⟩
  · exact (walk_zipTT (K := T.K) (a := a) (b := b) (xs := vs) (ys := ws) (n := (zipD xs ys).length) (by simp [zipD, r.len, r'.len])).mono (fun H g => ⟨sameT g h, sameT g h'⟩) fun i H x H' _ _ y => y
  · obtain ⟨p, v1, v2, rfl, hp, rfl, h3, h4⟩ := y
    unfold zipD at hx
    rw [List.getElem?_map] at hx
    obtain ⟨q, hq, e⟩ := Option.map_eq_some_iff.mp hx
    obtain ⟨z1, z2, hz⟩ : ∃ z1 z2, q = (z1, z2) := ⟨q.1, q.2, rfl⟩
    subst hz
    rw [List.getElem?_zip_eq_some] at hq
    obtain ⟨w1, k1, k2⟩ := r.get hq.1
    obtain ⟨w2, k3, k4⟩ := r'.get hq.2
    cases k1.symm.trans (show vs[i]? = some v1 from h3); cases k3.symm.trans (show ws[i]? = some v2 from h4)
    refine .inr ⟨p, _, rfl, hp, rfl, fun G1 g1 hG => ?_⟩
    rw [← e]
    exact .tup (SqT.of hG) (.cons (k2.mono g1) (.cons (k4.mono g1) .nil))
theorem di_enum (hg : Gl X "enumerate") (hm : X.mg "enumerate" = none) (ha : DV X Y W [a] mv) (hs : starEach [a] X.env = [(false, eval a X.env)] := by rfl) : DI X Y W (.Tuple elts kk tpos) (.Call (.Name "enumerate" p) [a] [] pos) (itEnum mv) :=
  ⟨piImp (pi_enum hg hm ha.pa hs) fun σ H R ⟨G, AD, Fr, env, s, S, p⟩ => by
    refine stepV S p fun vs s1 G1 AD1 H1 xs h1 g1 e1 S1 rs p1 => ?_
    split at p1
    · rename_i ys
      obtain ⟨x, rfl, r⟩ := rs.one
      cases (r : Rep (tx X) G1 x (.lst ys)) with
      | lst h2 h3 => exact ⟨_, _, rfl, SqL.of (S1.ss.gh _ _ h2), p1 G1 AD1 H1 (Same.refl _) Ext.refl S1.ss _ (walkD_enum (SqL.of h2) h3)⟩
    · exact p1.elim⟩
theorem di_zip (hg : Gl X "zip") (hm : X.mg "zip" = none) (ha : DV X Y W [a, b] mv) (hs : starEach [a, b] X.env = (false, eval a X.env) :: starEach [b] X.env := by rfl) (hpl : (backTo pos (starEach [b] X.env)).any (·.1) = false := by rfl) : DI X Y W (.Tuple elts kk tpos) (.Call (.Name "zip" p) [a, b] [] pos) (itZip mv) :=
  ⟨piImp (RZ.pi_zipA hg hm ha.pa hs hpl) fun σ H R ⟨G, AD, Fr, env, s, S, p⟩ => by
    refine stepV S p fun vs s1 G1 AD1 H1 xs h1 g1 e1 S1 rs p1 => ?_
    split at p1
    · rename_i ys zs
      obtain ⟨x, y, rfl, r, r2⟩ := rs.two
      cases (r : Rep (tx X) G1 x (.lst ys)) with
      | lst h2 h3 =>
      cases (r2 : Rep (tx X) G1 y (.lst zs)) with
      | lst h4 h5 => exact ⟨_, _, _, _, rfl, .inl ⟨SqL.of (S1.ss.gh _ _ h2), SqL.of (S1.ss.gh _ _ h4), p1 G1 AD1 H1 (Same.refl _) Ext.refl S1.ss _ (walkD_zip (SqL.of h2) h3 (SqL.of h4) h5)⟩⟩
    · rename_i ys zs
      obtain ⟨x, y, rfl, r, r2⟩ := rs.two
      cases (r : Rep (tx X) G1 x (.tup ys)) with
      | tup h2 h3 =>
      cases (r2 : Rep (tx X) G1 y (.tup zs)) with
      | tup h4 h5 => exact ⟨_, _, _, _, rfl, .inr ⟨sameT S1.ss.gh h2, sameT S1.ss.gh h4, p1 G1 AD1 H1 (Same.refl _) Ext.refl S1.ss _ (walkD_zipT h2 h3 h4 h5)⟩⟩
    · exact p1.elim⟩
end
/-! ## f-strings -/
def eFmt (m : En → M Val) : En → M Val := fun env => bnd (m env) fun v s => match v with
  | .d (.str y) => if y.length ≤ sizeLine then .ok (.d (.str y)) s else .bad
  | .d (.int i) => if i.natAbs.log2 < 1920 then .ok (.d (.str (toString i))) s else .bad
  | _ => .bad
def joinL : List (En → M Val) → Str → En → M Str
  | [], acc => fun _ s => .ok acc s
  | m :: ms, acc => fun env => bnd (m env) fun v s => match v with
    | .d (.str y) => if (acc ++ y).length ≤ sizeLine then joinL ms (acc ++ y) env s else .bad
    | _ => .bad
def eFstr (ms : List (En → M Val)) : En → M Val := fun env => bnd (joinL ms Str.empty env) fun y s => .ok (.d (.str y)) s
section
variable {X : Cx} {Y : FC} {W : WX} {e v1 v2 : Expr} {m : En → M Val} {rest : List Expr} {ms : List (En → M Val)} {pos : Pos}
theorem de_fmt (h : DE X Y W e m) : DE X Y W (.FormattedValue e (-1) none pos) (eFmt m) := mkE (pe_fmt h.pe) fun σ H Q G AD Fr env s S p => by
  refine stepE S p fun v s1 G1 AD1 H1 x h1 g1 e1 S1 r1 p1 => ?_
  split at p1
  · split at p1
    · rename_i y hy
      cases r1.2
      exact .inl ⟨y, rfl, hy, p1.done (Same.refl _) Ext.refl ⟨S1.ss, .str _⟩⟩
    · exact p1.elim
  · split at p1
    · rename_i i hi
      cases r1.2
      exact .inr ⟨i, rfl, hi, p1.done (Same.refl _) Ext.refl ⟨S1.ss, .str _⟩⟩
    · exact p1.elim
  · exact p1.elim
inductive DJ (X : Cx) (Y : FC) (W : WX) : List Expr → List (En → M Val) → Prop where
  | nil : DJ X Y W [] []
  | cons {e : Expr} {m : En → M Val} {es : List Expr} {ms : List (En → M Val)} (h : DE X Y W e m) (r : DJ X Y W es ms) : DJ X Y W (e :: es) (m :: ms)
theorem dj_pj {es : List Expr} {ms : List (En → M Val)} (h : DJ X Y W es ms) : PJ X es (ms.map fun m => tE X Y W m) := by
  induction h with
  | nil => exact .nil
  | cons h r ih => exact .cons h.pe ih
theorem join_post {σ : L2.St} {Fr : Hp} {env : En} {Q : VK} : ∀ (ms : List (En → M Val)) (acc : Str) {G : Hp} {AD : AM} {s : Sto} {H : Hp}, SimE (tx X) Y G AD Fr env s σ H → PostR All (tx X) W Fr σ G AD s ((joinL ms acc env s).bnd fun y s => Res.ok (Val.d (.str y)) s) (CE (tx X) Fr Q) →
    tJs (ms.map fun m => tE X Y W m) acc σ H fun out H1 => Q (.str out) H1
  | [], acc, G, AD, s, H, S, p => PostR.done p (Same.refl _) Ext.refl ⟨S.ss, .str _⟩
  | m :: ms, acc, G, AD, s, H, S, p => by
    have p' : PostR All (tx X) W Fr σ G AD s ((m env s).bnd fun v s => (match v with
      | .d (.str y) => if (acc ++ y).length ≤ sizeLine then joinL ms (acc ++ y) env s else Res.bad
      | _ => .bad).bnd fun y s => Res.ok (Val.d (.str y)) s) (CE (tx X) Fr Q) := by
      unfold joinL bnd at p
      cases e : m env s with
      | bad => rw [e] at p; exact p
      | exc d s' => rw [e] at p; exact p
      | ok v s' => rw [e] at p; exact p
    show tE X Y W m σ H _
    refine stepE S p' fun v s1 G1 AD1 H1 x h1 g1 e1 S1 r1 p1 => ?_
    match v, r1, p1 with
    | .d (.str y), r1, p1 =>
      cases r1.2
      refine ⟨y, rfl, ?_⟩
      by_cases hc : (acc ++ y).length ≤ sizeLine
      · exact ⟨hc, join_post ms (acc ++ y) S1 (by
          have p2 : PostR All (tx X) W Fr σ G1 AD1 s1 ((if (acc ++ y).length ≤ sizeLine then joinL ms (acc ++ y) env s1 else Res.bad).bnd fun y s => Res.ok (Val.d (.str y)) s) (CE (tx X) Fr Q) := p1
          rw [if_pos hc] at p2
          exact p2)⟩
      · have p2 : PostR All (tx X) W Fr σ G1 AD1 s1 ((if (acc ++ y).length ≤ sizeLine then joinL ms (acc ++ y) env s1 else Res.bad).bnd fun y s => Res.ok (Val.d (.str y)) s) (CE (tx X) Fr Q) := p1
        rw [if_neg hc] at p2
        exact p2.elim
    | .d .non, _, p1 => exact p1.elim
    | .d (.int _), _, p1 => exact p1.elim
    | .d (.bl _), _, p1 => exact p1.elim
    | .d (.glo _), _, p1 => exact p1.elim
    | .d (.tup _), _, p1 => exact p1.elim
    | .d (.lst _), _, p1 => exact p1.elim
    | .d (.scr _), _, p1 => exact p1.elim
    | .d (.dct _), _, p1 => exact p1.elim
    | .d (.obj _ _), _, p1 => exact p1.elim
    | .m _ _, _, p1 => exact p1.elim
    | .f _, _, p1 => exact p1.elim
theorem de_fstr (h : DJ X Y W (v1 :: v2 :: rest) ms) : DE X Y W (.JoinedStr (v1 :: v2 :: rest) pos) (eFstr ms) := mkE (pe_joined (dj_pj h)) fun σ H Q G AD Fr env s S p => join_post ms Str.empty S p
end
/-! ## a, b = x, y; lists that stay -/
def parPut (b n0 : Nat) : List (Nat × Option Nat) → List Val → En → Sto → Option (En × Sto)
  | [], [], env, s => some (env, s)
  | (i, none) :: ts, .d x :: vs, env, s => parPut b n0 ts vs (env.set i (some (.d x))) s
  | (i, some k) :: ts, v :: vs, env, s => match v with
    | .d x => parPut b n0 ts vs (env.set i (some (.d x))) s
    | .m l [] => match s[l]? with
      | some (some t) => if n0 ≤ l then parPut b n0 ts vs (env.set i (some (.m (b + k) []))) ((s.set l none).set (b + k) (some t)) else none
      | _ => none
    | _ => none
  | _, _, _, _ => none
def sPar (b : Nat) (ts : List (Nat × Option Nat)) (mv : En → M (List Val)) : SM := fun env s => (mv env s).sb env fun vs s1 => match parPut b s.length ts vs env s1 with
  | some (env', s2) => .ok .nx env' (s2.take s.length)
  | none => .bad
def putV : List (Nat × Option Nat) → List V → L2.St → L2.St
  | (i, _) :: ts, x :: xs, σ => putV ts xs (σ.set i (some x))
  | _, _, σ => σ
def parOk (Y : FC) (ts : List (Nat × Option Nat)) : Bool := ts.all fun p => match p.2 with
  | none => true
  | some k => owOk Y.ow Y.nk p.1 k

def VRq (n0 : Nat) (T : TX) (G : Hp) (AD : AM) (s : Sto) (v : Val) (x : V) : Prop := match v with
  | .m l p => n0 ≤ l → VR T G AD s (.m l p) x
  | v => VR T G AD s v x
inductive VRqs (n0 : Nat) (T : TX) (G : Hp) (AD : AM) (s : Sto) : List Val → List V → Prop
  | nil : VRqs n0 T G AD s [] []
  | cons {v : Val} {x : V} {vs : List Val} {xs : List V} : VRq n0 T G AD s v x → VRqs n0 T G AD s vs xs → VRqs n0 T G AD s (v :: vs) (x :: xs)
theorem VRs.q {n0 : Nat} {T : TX} {G : Hp} {AD : AM} {s : Sto} : ∀ {vs : List Val} {xs : List V}, VRs T G AD s vs xs → VRqs n0 T G AD s vs xs
  | _, _, .nil => .nil
  | _, _, .cons (v := v) r t => .cons (by
      cases v with
      | d y => exact r
      | f t => exact r
      | m l p => exact fun _ => r) t.q
theorem VRqs.move {n0 : Nat} {T : TX} {G : Hp} {AD AD' : AM} {s s' : Sto} (h : ∀ l p o, n0 ≤ l → l < s.length → res s' l p = some o → (∃ o', res s l p = some o') ∧ AD' l p = AD l p) (hl : s'.length = s.length) : ∀ {vs : List Val} {xs : List V}, VRqs n0 T G AD s vs xs → VRqs n0 T G AD' s' vs xs
  | _, _, .nil => .nil
  | _, _, .cons (v := v) r t => .cons (by
      cases v with
      | d y => exact r
      | f t => exact r
      | m l p =>
        intro hn
        have r' := r hn
        refine ⟨by rw [hl]; exact r'.1, fun o ho => ?_⟩
        obtain ⟨⟨o', k1⟩, k2⟩ := h l p o hn r'.1 ho
        rw [k2]; exact r'.2 o' k1) (VRqs.move h hl t)
/-- those of a list of values that are roots from n0 on, but for l: none other is l -/
theorem parPut_sim {T : TX} {Y : FC} {Fr : Hp} {G : Hp} {H : Hp} {n0 : Nat} (hn : Y.b + Y.nk ≤ n0) : ∀ (ts : List (Nat × Option Nat)) (vs : List Val) (xs : List V) {AD : AM} {env env' : En} {s s' : Sto} {σ : L2.St}, parOk Y ts = true → SimE T Y G AD Fr env s σ H → n0 ≤ s.length → VRqs n0 T G AD s vs xs → parPut Y.b n0 ts vs env s = some (env', s') →
    ∃ AD', SimE T Y G AD' Fr env' s' (putV ts xs σ) H ∧ Ext (Bl Y) s AD s' AD' ∧ n0 ≤ s'.length
  | [], [], xs, AD, env, env', s, s', σ, _, S, hs, r, e => by
    cases e; cases r
    exact ⟨AD, S, Ext.refl, hs⟩
  | (i, none) :: ts, v :: vs, xs, AD, env, env', s, s', σ, hp, S, hs, r, e => by
    cases r with
    | cons r rs =>
    cases v with
    | d x =>
      have hp' : parOk Y ts = true := by
        unfold parOk at hp ⊢
        rw [List.all_cons, Bool.and_eq_true] at hp
        exact hp.2
      exact parPut_sim hn ts vs _ hp' ⟨S.ss, S.en.set r, S.bl⟩ hs rs e
    | m l p => cases e
    | f t => cases e
  | (i, some k) :: ts, v :: vs, xs, AD, env, env', s, s', σ, hp, S, hs, r, e => by
    have hp2 : owOk Y.ow Y.nk i k = true ∧ parOk Y ts = true := by
      unfold parOk at hp ⊢
      rw [List.all_cons, Bool.and_eq_true] at hp
      exact hp
    cases r with
    | cons r rs =>
    cases v with
    | d x => exact parPut_sim hn ts vs _ hp2.2 ⟨S.ss, S.en.set r, S.bl⟩ hs rs e
    | f t => cases e
    | m l p =>
      cases p with
      | cons a b => cases e
      | nil =>
      have e2 : (match s[l]? with
        | some (some t) => if n0 ≤ l then parPut Y.b n0 ts vs (env.set i (some (.m (Y.b + k) []))) ((s.set l none).set (Y.b + k) (some t)) else none
        | _ => none) = some (env', s') := e
      cases ht : s[l]? with
      | none => rw [ht] at e2; cases e2
      | some ot =>
        cases ot with
        | none => rw [ht] at e2; cases e2
        | some t =>
          rw [ht] at e2
          dsimp only at e2
          by_cases hl : n0 ≤ l
          · rw [if_pos hl] at e2
            obtain ⟨k1, k2⟩ := S.ss.move ht
            obtain ⟨o, ho⟩ := S.ss.rt l t ht
            have hx := (r hl).2 o (by unfold res; rw [ht]; exact ho)
            have S1 : SimE T Y G (adPut AD s.length (AD l)) Fr env (s.set l none) σ H := ⟨k1.pre, S.en.mono (Same.refl _) k2, by rw [List.length_set]; exact S.bl⟩
            obtain ⟨S2, x2⟩ := S1.own1 (x := .ref (AD l [])) hp2.1 ⟨k1, by rw [List.length_set]; exact (congrArg V.ref (congrFun (adPut_same (AD := AD)).symm []))⟩
            rw [hx]
            have o2 : owOk Y.ow Y.nk i k = true := hp2.1
            unfold owOk at o2
            simp only [Bool.and_eq_true, decide_eq_true_eq] at o2
            have ne : l ≠ Y.b + k := by omega
            have lens : ((s.set l none).set (Y.b + k) (some t)).length = s.length := by rw [List.length_set, List.length_set]
            have rs' := VRqs.move (n0 := n0) (AD' := adPut (adPut AD s.length (AD l)) (Y.b + k) (adPut AD s.length (AD l) (s.set l none).length)) (s' := (s.set l none).set (Y.b + k) (some t)) (fun l' p' o' h1 h2 h3 => by
              have ne1 : l' ≠ Y.b + k := by omega
              have ne2 : l' ≠ l := fun z => by
                subst z
                unfold res at h3
                rw [List.getElem?_set_ne (Ne.symm ne1), List.getElem?_set_self h2] at h3
                cases h3
              refine ⟨⟨o', ?_⟩, ?_⟩
              · unfold res at h3 ⊢
                rw [List.getElem?_set_ne (Ne.symm ne1), List.getElem?_set_ne (Ne.symm ne2)] at h3
                exact h3
              · rw [adPut_ne ne1, adPut_ne (by omega)]) lens rs
            obtain ⟨AD3, q1, q2, q3⟩ := parPut_sim hn ts vs _ hp2.2 S2 (by rw [lens]; exact hs) rs' e2
            exact ⟨AD3, q1, ((k2.mono fun _ _ => trivial).trans x2).trans q2, q3⟩
          · rw [if_neg hl] at e2; cases e2
  | [], _ :: _, _, _, _, _, _, _, _, _, _, _, _, e => by cases e
  | (_, none) :: _, [], _, _, _, _, _, _, _, _, _, _, _, e => by cases e
  | (_, some _) :: _, [], _, _, _, _, _, _, _, _, _, _, _, e => by cases e

theorem Ext.take2 {Y : FC} {s0 s : Sto} {AD0 AD : AM} {n : Nat} (e : Ext (Bl Y) s0 AD0 s AD) (hn : s0.length ≤ n) (hl : n ≤ s.length) : Ext (Bl Y) s0 AD0 (s.take n) AD := ⟨by rw [List.length_take]; omega, fun l p o hq h => e.old l p o hq (res_take h).1⟩
theorem EnvOk.take {T : TX} {Y : FC} {G : Hp} {AD : AM} {env : En} {s : Sto} {σ : L2.St} {n : Nat} (h : EnvOk T Y G AD env s σ) (hn : Y.b + Y.nk ≤ n) (hl : n ≤ s.length) : EnvOk T Y G AD env (s.take n) σ :=
  ⟨h.len, fun i v hv => by
    obtain ⟨x, h1, h2⟩ := h.val i v hv
    refine ⟨x, h1, ?_⟩
    cases v with
    | d y => exact h2
    | f t => exact h2
    | m l p =>
      refine ⟨?_, fun o ho => h2.2 o (res_take ho).1⟩
      rw [List.length_take]
      rcases h.own i l p hv with z | ⟨k, _, z1, z2, _⟩ <;> omega, h.own, h.g0, h.px⟩
section
variable {X : Cx} {Y : FC} {W : WX} {a b c : Expr} {mv : En → M (List Val)} {i j l : Nat} {x y z : Str} {px py pz pt pos : Pos} {kt k2 pt2}
theorem par_post {D : Ends} {σ : L2.St} {H : Hp} {G : Hp} {AD : AM} {Fr : Hp} {env : En} {s : Sto} {es : List Expr} {ts : List (Nat × Option Nat)} {Q' : List V → Hp → Prop} (hp : parOk Y ts = true) (hl : es.length = ts.length) (ha : DR X Y W es mv) (S : SimE (tx X) Y G AD Fr env s σ H) (p : PostS (tx X) Y W Fr G AD s (sPar Y.b ts mv env s) D)
    (h : ∀ xs H1, xs.length = ts.length → D.nx (putV ts xs σ) H1 → Q' xs H1) : tR X Y W mv σ H Q' := by
  refine ⟨s.length, G, AD, Fr, env, s, S, S.bl, Nat.le_refl _, ?_⟩
  unfold sPar at p
  cases e : mv env s with
  | bad => rw [e] at p; exact p
  | exc d s' =>
    rw [e] at p
    exact fun G' AD' H' cls dx g x S' er => p G' AD' H' σ cls dx g (x.mono fun l hl => by have := S.bl; have hb : l < Y.b := hl; omega) ⟨S', S.en.monoQ g x fun l hl => Nat.lt_of_lt_of_le hl S.bl, Nat.le_trans S.bl x.len⟩ er
  | ok vs s1 =>
    rw [e] at p
    intro G1 AD1 H1 g1 e1 xs S1 rs
    have p1 : PostS (tx X) Y W Fr G AD s (match parPut Y.b s.length ts vs env s1 with
      | some (env', s2) => .ok .nx env' (s2.take s.length)
      | none => .bad) D := p
    have S1E : SimE (tx X) Y G1 AD1 Fr env s1 σ H1 := ⟨S1, S.en.monoQ g1 e1 fun l hl => Nat.lt_of_lt_of_le hl S.bl, Nat.le_trans S.bl e1.len⟩
    cases hq : parPut Y.b s.length ts vs env s1 with
    | none => rw [hq] at p1; exact p1.elim
    | some q =>
      obtain ⟨env', s2⟩ := q
      rw [hq] at p1
      obtain ⟨AD2, q1, q2, q3⟩ := parPut_sim S.bl ts vs xs hp S1E e1.len rs.q hq
      have hx : xs.length = ts.length := by rw [← rs.len, ha.ln _ _ _ _ e, hl]
      refine h xs H1 hx ?_
      have e1' : Ext (Bl Y) s AD s1 AD1 := e1.mono fun l hl => by have := S.bl; have hb : l < Y.b := hl; omega
      exact p1 G1 AD2 H1 _ g1 ((e1'.trans q2).take2 (Nat.le_refl _) q3) ⟨q1.ss.take _, q1.en.take S.bl q3, by rw [List.length_take]; have := S.bl; omega⟩
theorem ds_par2 {o1 o2 : Option Nat} (hc : X.calm = true) (hN : X.N.Nodup) (hi : X.N[i]? = some x) (hj : X.N[j]? = some y) (hij : i ≠ j)
    (hx : X.env.scope.names.lookup x = some .local) (hy : X.env.scope.names.lookup y = some .local) (hp : parOk Y [(i, o1), (j, o2)] = true) (ha : DR X Y W [a, b] mv)
    (hw : swappedStores [.Tuple [.Name x px, .Name y py] kt pt] (.Tuple [a, b] k2 pt2) X.env = pure (some [x, y]))
    (hs : swapsWithSole [.Tuple [.Name x px, .Name y py] kt pt] (.Tuple [a, b] k2 pt2) pos.line X.env = pure false := by rfl) :
    DS X Y W (.Assign [.Tuple [.Name x px, .Name y py] kt pt] (.Tuple [a, b] k2 pt2) pos) (sPar Y.b [(i, o1), (j, o2)] mv) :=
  mkS (ps_par hc hN hi hj hij hx hy ha.pa hw hs) fun D σ H G AD Fr env s S p => par_post hp rfl ha S p fun xs H1 hx q => match xs, hx, q with
    | [v, w], _, q => ⟨v, w, rfl, q⟩
theorem ds_par3 {o1 o2 o3 : Option Nat} (hc : X.calm = true) (hN : X.N.Nodup) (hi : X.N[i]? = some x) (hj : X.N[j]? = some y) (hl : X.N[l]? = some z) (hij : i ≠ j) (hil : i ≠ l) (hjl : j ≠ l)
    (hx : X.env.scope.names.lookup x = some .local) (hy : X.env.scope.names.lookup y = some .local) (hz : X.env.scope.names.lookup z = some .local) (hp : parOk Y [(i, o1), (j, o2), (l, o3)] = true) (ha : DR X Y W [a, b, c] mv)
    (hw : swappedStores [.Tuple [.Name x px, .Name y py, .Name z pz] kt pt] (.Tuple [a, b, c] k2 pt2) X.env = pure (some [x, y, z]))
    (hs : swapsWithSole [.Tuple [.Name x px, .Name y py, .Name z pz] kt pt] (.Tuple [a, b, c] k2 pt2) pos.line X.env = pure false := by rfl) :
    DS X Y W (.Assign [.Tuple [.Name x px, .Name y py, .Name z pz] kt pt] (.Tuple [a, b, c] k2 pt2) pos) (sPar Y.b [(i, o1), (j, o2), (l, o3)] mv) :=
  mkS (ps_par3 hc hN hi hj hl hij hil hjl hx hy hz ha.pa hw hs) fun D σ H G AD Fr env s S p => par_post hp rfl ha S p fun xs H1 hx q => match xs, hx, q with
    | [u, v, w], _, q => ⟨u, v, w, rfl, q⟩
end
end DL
end

set_option Elab.async false
set_option linter.all false
set_option maxRecDepth 100000
set_option maxHeartbeats 4000000
namespace PySem.W
open PySem PySem.Spec PySem.Calls PyProof.Rows
section
variable {prog : Program} {w : World} {A : Around} {E : Value → Shared → Prop} {s : Shared} {K : Frag} {x D : Addr} {ox od : Obj}
/-- the class of an exception that has a dict of its own -/
theorem dl_excClass {Q : Option Value → Shared → Prop} (T : L2.ExcC K D) (X : K.In s.heap) (I : InstAt s.heap x ox D (some od)) (h : Q (some (.ref D)) { s with toks := s.toks + 1 }) : wpAny (model prog w) A (getAttr? (.ref x) "__class__") Q E s := by
  have hcl : (clsIn K D).isSome = true := by
    obtain ⟨c, hc, _⟩ := any_some T.hd
    simp [hc]
  have hfo : findObj K D (some od) "__class__" = some (.bind (.builtin "getset_descriptor.__get__") (.builtin "object.__class__")) := findObj_data hcl T.ha T.hn T.ht
  obtain ⟨hp, gs, dr, tk, os⟩ := s
  have M0 := I.type (M := model prog w)
  have M1 := looks_findIn (M := model prog w) X T.hg
  have M2 := looks_findIn (M := model prog w) X T.hk
  have M3 := looks_find (M := model prog w) X I hfo
  have base : Looks (model prog w) hp (isInstance (.ref x) (.type "BaseException")) true := M0.andThen (looks_subIn X T.hs)
  have o0 : (false && onTheHeap (Value.builtin "BaseException.__getattribute__")) = false := rfl
  have o1 : (onTheHeap (Value.ref D) && Value.builtin "BaseException.__getattribute__" == Value.builtin "object.__getattribute__") = false := by
    rw [show (Value.builtin "BaseException.__getattribute__" == Value.builtin "object.__getattribute__") = false by decide +kernel]; rfl
  unfold getAttr? getAttrBy? getAttrBy
  refine wpAny_bind (wpAny_mkText (wpAny_bind (wpAny_attempt (wpAny_holding (wpAny_bind (M0.at (wpAny_bind (M1.at ?_))))))))
  show wpAny _ _ (if (onTheHeap (Value.ref D) && Value.builtin "BaseException.__getattribute__" == Value.builtin "object.__getattribute__") = true then _ else _) _ _ _
  rw [o1, if_neg Bool.false_ne_true]; unfold getAttrByItsOwn hookBefore
  refine wpAny_bind ?_; rw [if_pos (show onTheHeap (Value.ref D) = true from rfl)]
  refine M2.at (wpAny_bind (wpAny_attempt (wpAny_holding ?_)))
  unfold callGetattribute; rw [o0, if_neg Bool.false_ne_true]; unfold boundAndCalled
  rw [PySem.F.excAttr_ValueError.ga.bind (.ref x)]; refine wpAny_bind (wpAny_pure ?_)
  show wpAny _ _ (call (.builtin "BaseException.__getattribute__") [.ref x, .str "__class__" tk]) _ _ _
  refine wpAny_call (codeAny_call_builtin PySem.F.excAttr_ValueError.ga.plain PySem.F.entry_bexc_ga
    (@check_slot (model prog w) _ _ ⟨hp, gs, dr, tk + 1, os⟩ "BaseException.__getattribute__" "BaseException" "__getattribute__" (.ref x) [.str "__class__" tk] [] _ (by decide +kernel) (by decide +kernel) base (PySem.F.args_bexc_ga (.ref x) (.str "__class__" tk)) ?_))
  unfold Builtin.«object.__getattribute__»
  refine wpAny_bind (wpAny_of_eq (a := ((Value.ref x : Value), [Value.str "__class__" tk])) (by first | rfl | (simp only [slotArgs]; rfl)) ?_)
  refine wpAny_bind (wpAny_pure (wpAny_bind (M0.at (wpAny_bind (M3.at ?_)))))
  show wpAny _ _ (holding [Value.builtin "object.__class__"] (call (.builtin "getset_descriptor.__get__") [.builtin "object.__class__", .ref x, .ref D]) >>= ret) _ _ _
  refine wpAny_bind (wpAny_holding (wpAny_call (class_get (s := ⟨hp, gs, dr, tk + 1, os⟩) (ox := ox) (od := some od) X I T.hm (wpAny_pure ?_))))
  show wpAny _ _ (handedOut (.ref D)) _ _ _
  rw [handedOut_of (v := .ref D) rfl]
  first
    | exact wpAny_pure (wpAny_pure h)
    | exact wpAny_pure h
theorem dl_kitExc (T : L2.ExcC K D) : KitX K (.ref x) (.ref D) (fun h => InstAt h x ox D (some od)) :=
  have Z : KitX K (.ref x) (.ref D) (fun h => InstAt h x ox D none) := handS_kitx_exc T.hg T.hk T.hs T.hd T.ha T.hn T.ht T.hm
  { ty := fun _ _ _ I => I.type
    it := fun M h X I => by
      obtain ⟨cdD, hcD, _⟩ := any_some T.hd
      unfold clsIn at hcD
      split at hcD
      · rename_i ho
        exact fun A' Q' E' s' k q => by unfold isType loadHead; exact wpAny_bind (wpAny_loadPart (k _ _ (X _ _ ho)) (wpAny_pure q))
      · cases hcD
    ne := fun h tp dd its n sl X htp => by
      obtain ⟨cdD, hcD, _⟩ := any_some T.hd
      refine Bool.eq_false_iff.mpr fun q => ?_
      cases Value.ref.inj (beq_iff_eq.mp q)
      unfold clsIn at hcD
      split at hcD
      · rename_i ho
        cases (X _ _ ho).symm.trans htp
      · cases hcD
    ca := fun X I k => dl_excClass T X I k }
end
end PySem.W
noncomputable section
namespace DL
open PySem PySem.Spec PyProof.Rows L2

/-! ## raise C(e) of an own exception class -/
theorem SimS.grow {T : TX} {G : Hp} {AD : AM} {Fr : Hp} {s : Sto} {H : Hp} {p : Addr} {u : HO} (S : SimS T G AD Fr s H) (hp : H p = none) : Same G (upd G p u) ∧ SimS T (upd G p u) AD Fr s (upd H p u) := by
  have S1 := S.laid (u := u) hp
  have g : Same G (upd G p u) := same_upd (Same.none S.gh hp)
  have npx : ∀ l q o, res s l q = some o → AD l q ≠ p := fun l q o h e => by
    obtain ⟨u', h1⟩ := (S.nd l q o h).there
    rw [e, hp] at h1; cases h1
  refine ⟨g, fun a o e => ?_, S1.fr, fun a o e => ?_, fun l q o h => Nd.monoG g (S1.nd l q o h), fun l q o h => ?_, S.nf, S.inj, S.rt⟩
  · by_cases ha : a = p
    · subst ha; rw [upd_same] at e ⊢; exact e
    · rw [upd_ne ha] at e; exact S1.gh a o e
  · rw [upd_ne (fun z => by rw [z, Same.none S.fr hp] at e; cases e)]; exact S.fg a o e
  · rw [upd_ne (npx l q o h)]; exact S.ng l q o h
/-- __init__ of an own exception class that keeps its one argument -/
def spXK (K : PySem.W.Frag) (f : Str) : Sp := fun vs H Q _ => ∃ (a C : Addr) (v : V), vs = [.ref a, v] ∧ OexC K C ∧ PySem.W.findIn K (.ref C) f = some none ∧ H a = some (exo a C none) ∧ ∀ dx, H dx = none → dx ≠ a → Q .non (upd (upd H dx (exd dx [(f, v)])) a (exo a C (some dx)))
section
variable {P : Program} {w : World} {K : PySem.W.Frag} {mg : Str → Option Value} {base : Heap} {x qual : Str} {params : Arguments} {body : List Stmt} {scope : Scope} {dvs : List V} {kws : List (Str × V)} {f : Addr} {fd : FuncData} {fl s0 v0 : Str} {p1 p2 p3 pos : Pos} {k : Nat}
theorem fn_xinit (F : FunD K x qual params body scope dvs kws f fd) (S : FnScope [s0, v0] [s0, v0] scope) (hb : body = [.Assign [.Attribute (.Name s0 p1) fl p2] (.Name v0 p3) pos])
    (h0 : Vis scope s0) (h1 : Vis scope v0) (d0 : (s0 == ("__debug__" : Str)) = false := by decide) (d1 : (v0 == ("__debug__" : Str)) = false := by decide) (c0 : (s0 == ("__classdict__" : Str)) = false := by decide) (c1 : (v0 == ("__classdict__" : Str)) = false := by decide) :
    FnOk P w K mg base (L2.CX P w) (k + 1) f fd [s0, v0] (spXK K fl) := by
  refine F.ok S (fun vs H Q E h => ?_) (fun cdv A outer s H vs Q E hr h => ?_)
  · obtain ⟨a, C, v, e, _⟩ := h
    rw [e]; rfl
  · obtain ⟨a, C, v, rfl, T, hn, ha, q⟩ := h
    subst hb
    refine ⟨_, pss_one (ps_ost (pe_var (i := 0) rfl h0 d0 c0) (pe_var (i := 1) rfl h1 d1 c1)), ?_⟩
    exact ⟨v, rfl, .ref a, rfl, a, C, rfl, T, hn, .inl ⟨ha, fun dx n ne => q dx n ne⟩⟩
end
def sRaise (c f : Str) (m : En → M Val) : SM := fun env s => (stl m env s).sb env fun v s1 => v.cD (fun x => .exc (.obj c [(f, x)]) env s1) .bad
structure RaiseF (X : Cx) (c f : Str) (C fI : Addr) (fd : FuncData) (ps : List Str) (k : Nat) : Prop where
  mg : X.mg c = some (.ref C)
  T : OexC X.K C
  no : PySem.W.findIn X.K (.ref C) f = some none
  iC : PySem.W.findIn X.K (.ref C) "__init__" = some (some (.ref fI))
  tI : PySem.W.typeIn X.K (.ref fI) = some (.type "function")
  F : FnOk X.prog X.w X.K X.mg X.base (L2.CX X.prog X.w) k fI fd ps (spXK X.K f)
  hb : Binds X.K fd ps []
section
variable {X : Cx} {Y : FC} {W : WX} {c f : Str} {C fI : Addr} {fd : FuncData} {ps : List Str} {k : Nat} {e : Expr} {m : En → M Val} {p pos rp : Pos}
theorem passes_false : Passes (L2.CX X.prog X.w) X (fun _ _ _ => False) := fun pins σ H s e s' I h => by
  obtain ⟨a, B, H', cls, d, _, _, _, _, _, _, _, z⟩ := h
  exact z.elim
theorem ds_raise (R : RaiseF X c f C fI fd ps k) (hr : Room (k + 1) X.A) (hc : X.calm = true) (tk : Takes X W) (hg : Gl X c) (h : DE X Y W e m)
    (hdb : (c == ("__debug__" : Str)) = false := by decide) (he : starEach [e] X.env = (false, eval e X.env) :: starEach [] X.env := by rfl) (hpl : (backTo pos (starEach [] X.env)).any (·.1) = false := by rfl) :
    DS X Y W (.Raise (some (.Call (.Name c p) [e] [] pos)) none rp) (sRaise c f m) :=
  mkS (ps_raise hc tk (pmk_oex (dvs := []) (ds := []) R.T R.iC R.tI R.F hr R.hb .nil passes_false hg R.mg (pa_cons h.stl.pe pa_nil he) hdb he hpl)) fun D σ H G AD Fr env s S p => by
    refine stepSE S p fun v s1 G1 AD1 H1 x h1 g1 e1 S1 r1 p1 => ?_
    refine d_case (k := fun x s1 => .exc (.obj c [(f, x)]) env s1) r1 p1 fun y hy ry p2 => ?_
    refine ⟨Nat.le_of_ble_eq_true rfl, fun a ha => ⟨a, C, x, rfl, R.T, R.no, upd_same, fun dx hdx hne => ⟨rfl, dx, [(f, x)], upd_same, ?_, ?_, ?_⟩⟩⟩
    · rw [upd_ne hne, upd_same]
    · rwa [upd_ne hne] at hdx
    · have hd1 : H1 dx = none := by rwa [upd_ne hne] at hdx
      have e0 : upd (del (upd (upd (upd H1 a (exo a C none)) dx (exd dx [(f, x)])) a (exo a C (some dx))) a) dx (.xd [(f, x)]) = upd H1 dx (.xd [(f, x)]) := by
        funext b
        by_cases hb : b = dx
        · rw [hb, upd_same, upd_same]
        · rw [upd_ne hb, upd_ne hb]
          by_cases hba : b = a
          · rw [hba, del_same, ha]
          · rw [del_ne hba, upd_ne hba, upd_ne hb, upd_ne hba]
      rw [e0]
      obtain ⟨g2, S2⟩ := S1.ss.grow (u := .xd [(f, x)]) hd1
      exact p2 (upd G1 dx (.xd [(f, x)])) AD1 _ σ (.ref C) (some dx) g2 Ext.refl ⟨S2, S1.en.mono g2 Ext.refl, S1.bl⟩ ⟨C, R.mg, rfl, dx, [(f, x)], rfl, upd_same, .cons (ry.mono g2) .nil⟩
end
end DL
end

set_option Elab.async false
set_option linter.all false
set_option maxRecDepth 100000
set_option maxHeartbeats 4000000
noncomputable section
namespace DL
open PySem PySem.Spec PyProof.Rows L2

/-! ## isinstance -/
structure InsTy (K : PySem.W.Frag) (C : Addr) : Prop where
  cl : Cls K C
  ha : PySem.W.findIn K (.ref C) "__class__" = some (some (.builtin "object.__class__"))
  hn : PySem.W.specialIn K (.builtin "object.__class__") "__get__" = some (some (.builtin "getset_descriptor.__get__"))
  tk : PySem.W.takesIn K (.builtin "object.__class__") = some true
  hm : PySem.W.mroIn K C (.type "object") = some true
structure IsF (X : Cx) (cv : Value) (tb : List (Str × Bool)) (nb : List (String × Bool)) : Prop where
  own : ∀ c b, tb.lookup c = some b → ∃ C, X.mg c = some (.ref C) ∧ InsTy X.K C ∧ PySem.W.kitOne X.K (.ref C) cv = some b
  bas : ∀ n b, nb.lookup n = some b → PySem.W.kitOne X.K (.type n) cv = some b
theorem isF_own_nil {X : Cx} {cv : Value} : ∀ c b, ([] : List (Str × Bool)).lookup c = some b → ∃ C, X.mg c = some (.ref C) ∧ InsTy X.K C ∧ PySem.W.kitOne X.K (.ref C) cv = some b := fun c b h => by cases h
theorem isF_own_cons {X : Cx} {cv : Value} {c0 : Str} {b0 : Bool} {C : Addr} {tb : List (Str × Bool)} (h1 : X.mg c0 = some (.ref C)) (h2 : InsTy X.K C) (h3 : PySem.W.kitOne X.K (.ref C) cv = some b0) (h : ∀ c b, tb.lookup c = some b → ∃ C, X.mg c = some (.ref C) ∧ InsTy X.K C ∧ PySem.W.kitOne X.K (.ref C) cv = some b) :
    ∀ c b, ((c0, b0) :: tb).lookup c = some b → ∃ C, X.mg c = some (.ref C) ∧ InsTy X.K C ∧ PySem.W.kitOne X.K (.ref C) cv = some b := fun c b h' => by
  rw [List.lookup_cons] at h'
  cases e : c == c0 with
  | true => rw [e] at h'; cases h'; rw [beq_iff_eq.mp e]; exact ⟨C, h1, h2, h3⟩
  | false => rw [e] at h'; exact h c b h'
theorem isF_bas_nil {X : Cx} {cv : Value} : ∀ n b, ([] : List (String × Bool)).lookup n = some b → PySem.W.kitOne X.K (.type n) cv = some b := fun c b h => by cases h
theorem isF_bas_cons {X : Cx} {cv : Value} {c0 : String} {b0 : Bool} {tb : List (String × Bool)} (h1 : PySem.W.kitOne X.K (.type c0) cv = some b0) (h : ∀ n b, tb.lookup n = some b → PySem.W.kitOne X.K (.type n) cv = some b) :
    ∀ n b, ((c0, b0) :: tb).lookup n = some b → PySem.W.kitOne X.K (.type n) cv = some b := fun c b h' => by
  rw [List.lookup_cons] at h'
  cases e : c == c0 with
  | true => rw [e] at h'; cases h'; rw [beq_iff_eq.mp e]; exact h1
  | false => rw [e] at h'; exact h c b h'
def tyName : Val → Sto → Option String := fun v s => match v with
  | .d .non => some "NoneType"
  | .d (.bl _) => some "bool"
  | .d (.int _) => some "int"
  | .d (.str _) => some "str"
  | .d (.tup _) => some "tuple"
  | v => match lstOf s v with
    | some _ => some "list"
    | none => none
def isiV (tb : List (Str × Bool)) (nb : List (String × Bool)) : Val → M Val := fun v s => match clsV v s with
  | some c => match tb.lookup c with
    | some b => .ok (.d (.bl b)) s
    | none => .bad
  | none => match tyName v s with
    | some n => match nb.lookup n with
      | some b => .ok (.d (.bl b)) s
      | none => .bad
    | none => .bad
def eIsi (tb : List (Str × Bool)) (nb : List (String × Bool)) (m : En → M Val) : En → M Val := fun env => bnd (stl m env) (isiV tb nb)
section
variable {X : Cx} {Y : FC} {W : WX} {e ce : Expr} {m : En → M Val} {cv : Value} {c : V} {tb : List (Str × Bool)} {nb : List (String × Bool)} {p pos : Pos}
theorem ty_of {G : Hp} {AD : AM} {Fr : Hp} {s : Sto} {H : Hp} {v : Val} {x : V} {n : String} (S : SimS (tx X) G AD Fr s H) (r : VR (tx X) G AD s v x) (h : tyName v s = some n) : TyX X.K H x (.type n) := by
  unfold tyName at h
  split at h
  · cases h; cases (r : Rep (tx X) G x _); exact .base .non
  · cases h; cases (r : Rep (tx X) G x _); exact .base (.bl _)
  · cases h; cases (r : Rep (tx X) G x _); exact .base (.int _)
  · cases h; cases (r : Rep (tx X) G x _); exact .base (.str _)
  · cases h
    cases (r : Rep (tx X) G x _) with
    | tup h1 h2 =>
      rcases sameT S.gh h1 with (h | ⟨o, h⟩) | ⟨o, its, n, h, hc, _⟩
      · exact .base (.tup h)
      · exact .fTuple h
      · exact .kTuple h hc
  · split at h
    · rename_i xs hx
      cases h
      obtain ⟨a, vs, rfl, h1, h2⟩ := lst_at S r hx
      exact .base (.lst h1)
    · cases h
theorem de_isi (F : IsF X cv tb nb) (hcv : ClsV c cv) (hg : Gl X "isinstance") (hm : X.mg "isinstance" = none) (ha : DE X Y W e m) (hce : PE X ce (tC c)) (hv : bootBuiltins "isinstance" = some (.builtin "isinstance") := by decide +kernel)
    (he : starEach [e, ce] X.env = (false, eval e X.env) :: starEach [ce] X.env := by rfl) (he2 : starEach [ce] X.env = (false, eval ce X.env) :: starEach [] X.env := by rfl) (hpl : (backTo pos (starEach [ce] X.env)).any (·.1) = false := by rfl) :
    DE X Y W (.Call (.Name "isinstance" p) [e, ce] [] pos) (eIsi tb nb m) :=
  mkE (pe_callB call_isi hg hm hv (pa_cons ha.stl.pe (pa_cons hce pa_nil he2) he) (by decide) (by decide) he hpl) fun σ H Q G AD Fr env s S p => by
    refine stepE S p fun v s1 G1 AD1 H1 x h1 g1 e1 S1 r1 p1 => ?_
    have r2 := r1.vr (stl_notf h1)
    unfold isiV at p1
    cases ec : clsV v s1 with
    | some c' =>
      rw [ec] at p1
      dsimp only at p1
      cases et : tb.lookup c' with
      | none => rw [et] at p1; exact p1.elim
      | some b =>
        rw [et] at p1
        obtain ⟨a, C, dx, vfs, rfl, k1, k2⟩ := clsV_of S1.ss r2 ec
        obtain ⟨C', j1, j2, j3⟩ := F.own c' b et
        rw [k1] at j1
        cases j1
        exact ⟨_, c, _, cv, b, rfl, hcv, .base (.ins k2 j2.cl j2.ha j2.hn j2.tk j2.hm), j3, p1.done (Same.refl _) Ext.refl ⟨S1.ss, .bl b⟩⟩
    | none =>
      rw [ec] at p1
      dsimp only at p1
      cases et : tyName v s1 with
      | none => rw [et] at p1; exact p1.elim
      | some n =>
        rw [et] at p1
        dsimp only at p1
        cases en : nb.lookup n with
        | none => rw [en] at p1; exact p1.elim
        | some b =>
          rw [en] at p1
          exact ⟨_, c, _, cv, b, rfl, hcv, ty_of S1.ss r2 et, F.bas n b en, p1.done (Same.refl _) Ext.refl ⟨S1.ss, .bl b⟩⟩
end

/-! ## try .. except C as n -/
def sTry (hs : List (Str × Bool)) (i : Nat) (body : SM) (suite : D → SM) : SM := fun env s => match body env s with
  | .exc (.obj c fs) env1 s1 => match hs.lookup c with
    | some true => if i < env1.length then (match suite (.obj c fs) (env1.set i none) s1 with
      | .ok fw env2 s2 => .ok fw (env2.set i none) s2
      | _ => .bad) else .bad
    | some false => .exc (.obj c fs) env1 s1
    | none => .bad
  | .exc _ _ _ => .bad
  | r => r
def HitF (X : Cx) (cv : Value) (hs : List (Str × Bool)) : Prop := ∀ c b, hs.lookup c = some b → ∃ C, X.mg c = some (.ref C) ∧ PySem.W.exmOne X.K (.ref C) cv = some b
theorem HitF.nil {X : Cx} {cv : Value} : HitF X cv [] := fun c b h => by cases h
theorem HitF.cons {X : Cx} {cv : Value} {hs : List (Str × Bool)} {c0 : Str} {b0 : Bool} {C : Addr} (h1 : X.mg c0 = some (.ref C)) (h2 : PySem.W.exmOne X.K (.ref C) cv = some b0) (h : HitF X cv hs) : HitF X cv ((c0, b0) :: hs) := fun c b h' => by
  rw [List.lookup_cons] at h'
  cases e : c == c0 with
  | true => rw [e] at h'; cases h'; rw [beq_iff_eq.mp e]; exact ⟨C, h1, h2⟩
  | false => rw [e] at h'; exact h c b h'
abbrev FC.sx (Y : FC) (g0 : Hp) (i : Nat) (a : Addr) : FC := ⟨Y.b, Y.nk, Y.ow, g0, [(i, .ref a)]⟩
theorem EnvOk.unset {T : TX} {Y : FC} {G : Hp} {AD : AM} {env : En} {s : Sto} {σ : L2.St} {i : Nat} {x : Option V} (h : EnvOk T Y G AD env s σ) {Y' : FC} (hb : Y'.b = Y.b) (hk : Y'.nk = Y.nk) (ho : Y'.ow = Y.ow) (g : Same Y'.g0 G) (px : ∀ p ∈ Y'.px, (env.set i none)[p.1]? = some none → (σ.set i x)[p.1]? = some (some p.2)) :
    EnvOk T Y' G AD (env.set i none) s (σ.set i x) := by
  have get : ∀ {j : Nat} {v : Val}, (env.set i none)[j]? = some (some v) → i ≠ j ∧ env[j]? = some (some v) := fun {j v} hv => by
    by_cases hj : i = j
    · subst hj
      by_cases hl : i < env.length
      · rw [List.getElem?_set_self hl] at hv; cases hv
      · rw [List.getElem?_eq_none (by rw [List.length_set]; omega)] at hv; cases hv
    · rw [List.getElem?_set_ne hj] at hv; exact ⟨hj, hv⟩
  refine ⟨by rw [List.length_set, List.length_set]; exact h.len, fun j v hv => ?_, fun j l p hv => ?_, g, px⟩
  · obtain ⟨hj, hv⟩ := get hv
    rw [List.getElem?_set_ne hj]
    exact h.val j v hv
  · rw [hb, hk, ho]
    exact h.own j l p (get hv).2
theorem ds_try {X : Cx} {Y : FC} {W : WX} {x n : Str} {cv : Value} {i : Nat} {body suite : List Stmt} {b₀ : Stmt} {np pos pos' : Pos} {hs : List (Str × Bool)} {mb : SM} {ms : D → SM}
    (hst : X.stack = X.env :: X.outer) (hf : X.env.frame = some X.env.locals) (hN : X.N.Nodup) (hi : X.N[i]? = some n) (hln : X.env.kindOf n = some .local) (hc : Names X x cv) (tk : Takes X W) (hpx : Y.px = []) (hh : HitF X cv hs)
    (hb : ∀ (W : WX) (pn : List (Addr × Obj)) (xe : Value → Shared → Prop), Takes (X.tr pn xe) W → PassesOwn (model X.prog X.w) X.A X.env xe → DB (X.tr pn xe) Y W body mb)
    (hsu : ∀ (a : Addr) (oe : Obj) (cls : Value) (dx : Option Addr) (pn : List (Addr × Obj)) (d : D) (g0 : Hp), Zc cls dx oe → (∃ vs, oe.data = .fields vs) → ExR (tx X) g0 cls dx d → DB (X.suite a ((a, oe) :: pn)) (Y.sx g0 i a) W0 (b₀ :: suite) (ms d)) :
    DS X Y W (.Try body [.ExceptHandler (some (.Name x np)) (some n) (b₀ :: suite) pos'] [] [] pos) (sTry hs i mb ms) :=
  mkS (ps_try_as (tb := fun W => tS X Y W mb) (ts := fun a cls dx => fun D σ H => ∃ d g0, ExR (tx X) g0 cls dx d ∧ tS X (Y.sx g0 i a) W0 (ms d) D σ H) hst hf hN hi hln hc tk (fun W pn xe t po => (hb W pn xe t po).ps)
    (fun a oe cls dx pn hz hd => ⟨fun pins s σ H D I ⟨d, g0, ex, q⟩ => (hsu a oe cls dx pn d g0 hz hd ex).ps.run pins s σ H D I q⟩)) fun D σ H G AD Fr env s S p => by
    refine ⟨G, AD, Fr, env, s, S, ?_⟩
    unfold sTry at p
    cases hr : mb env s with
    | bad => rw [hr] at p; exact p
    | ok fw env' s' => rw [hr] at p; exact p
    | exc d env1 s1 =>
      rw [hr] at p
      intro G1 AD1 H1 σ1 cls dx g1 x1 S1 er
      cases d with
      | obj c fs =>
        dsimp only at p
        cases hl : hs.lookup c with
        | none => rw [hl] at p; exact p.elim
        | some b =>
          rw [hl] at p
          obtain ⟨C, e1, e2, rest⟩ := er
          obtain ⟨C', k1, k2⟩ := hh c b hl
          rw [show (tx X).mg c = X.mg c from rfl, k1] at e1
          cases e1; subst e2
          refine ⟨b, k2, fun hb' a ha => ?_, fun hb' => ?_⟩
          · subst hb'
            dsimp only at p
            by_cases hil : i < env1.length
            · rw [if_pos hil] at p
              have S2 : SimE (tx X) (Y.sx G1 i a) G1 AD1 Fr (env1.set i none) s1 (σ1.set i (some (.ref a))) H1 := ⟨S1.ss, S1.en.unset rfl rfl rfl (Same.refl _) (fun q hq _ => by
                cases List.mem_singleton.mp hq
                rw [List.getElem?_set_self (by rw [← S1.en.len]; exact hil)]), S1.bl⟩
              refine ⟨.obj c fs, G1, ⟨C, k1, rfl, rest⟩, G1, AD1, Fr, env1.set i none, s1, S2, ?_⟩
              cases hm : ms (.obj c fs) (env1.set i none) s1 with
              | bad => rw [hm] at p; exact p.elim
              | exc d2 e2 s2 => rw [hm] at p; exact p.elim
              | ok fw env2 s2 =>
                rw [hm] at p
                intro G2 AD2 H2 σ2 g2 x2
                have p2 := p G2 AD2 H2 (σ2.set i none) (g1.trans g2) (x1.trans x2)
                have back : ∀ {G2 : Hp} {σ2 : L2.St} {env2 : En} {AD2 : AM} {s2 : Sto} {H2 : Hp}, Same G1 G2 → SimE (tx X) (Y.sx G1 i a) G2 AD2 Fr env2 s2 σ2 H2 → SimE (tx X) Y G2 AD2 Fr (env2.set i none) s2 (σ2.set i none) H2 := fun g2 S3 => ⟨S3.ss, S3.en.unset rfl rfl rfl (S1.en.g0.trans g2) (fun q hq _ => by rw [hpx] at hq; cases hq), S3.bl⟩
                cases fw with
                | nx => exact fun S3 => p2 (back g2 S3)
                | bk => exact fun S3 => p2 (back g2 S3)
                | ct => exact fun S3 => p2 (back g2 S3)
                | rt v => exact p2
            · rw [if_neg hil] at p; exact p.elim
          · subst hb'
            exact p G1 AD1 H1 σ1 (.ref C) dx g1 x1 S1 ⟨C, k1, rfl, rest⟩
      | _ => exact p.elim
/-! ### what a suite asks of the exception -/
def eXval (xs : List Str) (i : Nat) (d : D) (f : Str) : En → M Val := fun env s => match env[i]?, d with
  | some none, .obj c fs => if c ∈ xs then (match fs.lookup f with
    | some x => .ok (.d x) s
    | none => .bad) else .bad
  | _, _ => .bad
theorem de_never {X : Cx} {Y : FC} {W : WX} {e : Expr} {m : En → M Val} (h : ∀ env s, m env s = .bad) : DE X Y W e m := ⟨⟨fun pins s σ H Q I ⟨G, AD, Fr, env, st, S, p⟩ => by rw [h] at p; exact p.elim⟩⟩
def XFs (K : PySem.W.Frag) (mg : Str → Option Value) (xs : List Str) (f : Str) : Prop := ∀ c ∈ xs, ∃ C, mg c = some (.ref C) ∧ L2.ExcC K C ∧ L2.XfC K C ∧ PySem.W.findIn K (.ref C) f = some none
def XIs (K : PySem.W.Frag) (mg : Str → Option Value) (tb : List (Str × Bool)) (us : List Value) : Prop := ∀ c b, tb.lookup c = some b → ∃ C, mg c = some (.ref C) ∧ L2.ExcC K C ∧ PySem.W.kitAny K (.ref C) us = some b
def eXis (i : Nat) (d : D) (tb : List (Str × Bool)) : En → M Val := fun env s => match env[i]?, d with
  | some none, .obj c _ => match tb.lookup c with
    | some b => .ok (.d (.bl b)) s
    | none => .bad
  | _, _ => .bad
section
variable {X : Cx} {Y : FC} {W : WX} {a : Addr} {oe : Obj} {cls : Value} {dx : Option Addr} {pn : List (Addr × Obj)} {d : D} {g0 : Hp} {i : Nat} {n f : Str} {np pos : Pos}
variable {xs : List Str}
theorem de_xval (hz : Zc cls dx oe) (hd : ∃ vs, oe.data = .fields vs) (er : ExR (tx X) g0 cls dx d) (hX : XFs X.K X.mg xs f)
    (hN : X.N[i]? = some n) (hv : Vis X.env.scope n) (h1 : (n == ("__debug__" : Str)) = false := by decide) (h2 : (n == ("__classdict__" : Str)) = false := by decide) (hb : attributeBase (.Name n np) f X.env (eval (.Name n np) X.env) = eval (.Name n np) X.env := by rfl) :
    DE (X.suite a ((a, oe) :: pn)) (Y.sx g0 i a) W (.Attribute (.Name n np) f pos) (eXval xs i d f) := by
  cases d with
  | obj c fs =>
    by_cases hc : c ∈ xs
    case neg =>
      refine de_never fun env s => ?_
      unfold eXval
      split
      · rename_i hd'; cases hd'; rw [if_neg hc]
      · rfl
    obtain ⟨C, k1, rfl, dd, vfs, rfl, k2, k3⟩ := er
    obtain ⟨C', j0, _, j1, j2⟩ := hX c hc
    rw [show (tx X).mg c = X.mg c from rfl, j0] at k1
    cases k1
    refine mkE (pe_xf (C := C) j1 j2 hz hd (pe_var (i := i) hN hv h1 h2) hb) fun σ H Q G AD Fr env s S p => ?_
    unfold eXval at p
    split at p
    · rename_i fs' he hdd
      cases hdd
      rw [if_pos hc] at p
      split at p
      · rename_i y hy
        have px := S.en.px (i, .ref a) (List.mem_singleton.mpr rfl) he
        obtain ⟨v, l1, l2⟩ := RepF.look k3 hy
        exact ⟨.ref a, px, rfl, rfl, dd, vfs, v, rfl, S.ss.gh _ _ (S.en.g0 _ _ k2), l1, p.done (Same.refl _) Ext.refl ⟨S.ss, Rep.mono S.en.g0 l2⟩⟩
      · exact p.elim
    · exact p.elim
  | _ => exact er.elim
def rIsX (K : PySem.W.Frag) (D a dd : Addr) : List V → Hp → VK → Prop := fun xs H Q => ∃ (c : V) (vfs : List (Str × V)) (b : Bool), xs = [.ref a, c] ∧ H dd = some (.xd vfs) ∧
  ((∃ cv, ClsV c cv ∧ PySem.W.kitOne K (.ref D) cv = some b) ∨ ∃ tp cs us, c = .ref tp ∧ H tp = some (.tup cs) ∧ Paired ClsV cs us ∧ PySem.W.kitAny K (.ref D) us = some b) ∧ Q (.bl b) H
theorem call_isX {D dd : Addr} (C : ExcC X.K D) (hz : Zc (.ref D) (some dd) oe) (hf : ∃ vs, oe.data = .fields vs) : CallR (X.suite a ((a, oe) :: pn)) (.builtin "isinstance") (rIsX X.K D a dd) := by
  intro pins s σ H xs us Q I r h
  obtain ⟨c, vfs, b, rfl, hdd, hc, q⟩ := h
  obtain ⟨u1, u2, rfl, r1, r2⟩ := vals2 r
  cases (show u1 = Value.ref a from r1)
  obtain ⟨hget, _⟩ := I.pin (a, oe) (List.mem_append.mpr (.inl List.mem_cons_self))
  obtain ⟨vs, hv⟩ := hf
  have hx : ObjOk X.prog X.w H s.heap dd (.xd vfs) := I.hok dd _ hdd
  obtain ⟨mA, hns, hr⟩ := hx
  obtain ⟨od, ho, hl⟩ := lookIn_ns hns
  have J : PySem.W.InstAt s.heap a oe D (some od) := ⟨hget, hz.1, by unfold PySem.W.notCls; rw [hv] <;> rfl, by rw [hz.2]; exact ho⟩
  rcases hc with ⟨cv, k, e⟩ | ⟨tp, cs, ws, rfl, hT, k, e⟩
  · cases k.eq r2
    exact PySem.W.kia_one (PySem.W.dl_kitExc C) I.kIn J e (fun z => nomatch z) fun tk => ⟨.bl b, H, I.kept (t' := tk) fun _ _ z => z, rfl, q⟩
  · cases (show u2 = Value.ref tp from r2)
    obtain ⟨_, its, rv, o, h1, h2, n, h3⟩ := (show ObjOk X.prog X.w H s.heap tp (.tup cs) from I.hok tp _ hT)
    cases ClsV.all k rv
    obtain ⟨oc, o2, dt, sl⟩ := o
    simp only at h2 h3
    subst h2 h3
    exact PySem.W.kia_tup (PySem.W.dl_kitExc C) I.kIn J h1 e (fun z => nomatch z) fun tk => ⟨.bl b, H, I.kept (t' := tk) fun _ _ z => z, rfl, q⟩
/-- a class, or a written tuple of classes -/
inductive ClsE (X : Cx) : Expr → List Value → Bool → Prop
  | one {e : Expr} {c : V} {cv : Value} : PE X e (tC c) → ClsV c cv → ClsE X e [cv] false
  | tup {es : List Expr} {k : Nat} {pos : Pos} {cs : List V} {us : List Value} : PA X es (fun _ H Q => Q cs H) → Paired ClsV cs us → cs.length ≤ sizeLine → ClsE X (.Tuple es k pos) us true
theorem de_xis {ce : Expr} {us : List Value} {tt : Bool} {tb : List (Str × Bool)} {p : Pos} (hz : Zc cls dx oe) (hd : ∃ vs, oe.data = .fields vs) (er : ExR (tx X) g0 cls dx d) (hce : ClsE (X.suite a ((a, oe) :: pn)) ce us tt)
    (htb : XIs X.K X.mg tb us)
    (hN : X.N[i]? = some n) (hv : Vis X.env.scope n) (hg : Gl X "isinstance") (hm : X.mg "isinstance" = none) (h1 : (n == ("__debug__" : Str)) = false := by decide) (h2 : (n == ("__classdict__" : Str)) = false := by decide) (hbb : bootBuiltins "isinstance" = some (.builtin "isinstance") := by decide +kernel)
    (he : starEach [.Name n np, ce] X.env = (false, eval (.Name n np) X.env) :: starEach [ce] X.env := by rfl) (he2 : starEach [ce] X.env = (false, eval ce X.env) :: starEach [] X.env := by rfl) (hpl : (backTo pos (starEach [ce] X.env)).any (·.1) = false := by rfl) :
    DE (X.suite a ((a, oe) :: pn)) (Y.sx g0 i a) W (.Call (.Name "isinstance" p) [.Name n np, ce] [] pos) (eXis i d tb) := by
  cases d with
  | obj c fs =>
    cases htl : tb.lookup c with
    | none =>
      refine de_never fun env s => ?_
      unfold eXis
      split
      · rename_i hd'; cases hd'; rw [htl]
      · rfl
    | some b0 =>
    obtain ⟨C, k1, rfl, dd, vfs, rfl, k2, k3⟩ := er
    obtain ⟨C', j0, j1, j9⟩ := htb c b0 htl
    rw [show (tx X).mg c = X.mg c from rfl, j0] at k1
    cases k1
    have one : ∀ {cv : Value} {b : Bool}, PySem.W.kitAny X.K (.ref C) [cv] = some b → PySem.W.kitOne X.K (.ref C) cv = some b := fun {cv b} h => by
      unfold PySem.W.kitAny at h
      split at h
      · rename_i h'; cases h; exact h'
      · rename_i h'; cases h; exact h'
      · cases h
    have core : ∀ {σ : L2.St} {H : Hp} {Q : VK} {G : Hp} {AD : AM} {Fr : Hp} {env : En} {s : Sto}, SimE (tx X) (Y.sx g0 i a) G AD Fr env s σ H → PostR All (tx X) W Fr σ G AD s (eXis i (.obj c fs) tb env s) (CE (tx X) Fr Q) →
        σ[i]? = some (some (.ref a)) ∧ H dd = some (.xd vfs) ∧ ∃ b, PySem.W.kitAny X.K (.ref C) us = some b ∧ ∀ H', Same H H' → Q (.bl b) H' := fun {σ H Q G AD Fr env s} S p => by
      unfold eXis at p
      split at p
      · rename_i c' fs' he hdd
        cases hdd
        split at p
        · rename_i b hb
          rw [htl] at hb
          cases hb
          have z2 := j9
          exact ⟨S.en.px (i, .ref a) (List.mem_singleton.mpr rfl) he, S.ss.gh _ _ (S.en.g0 _ _ k2), _, z2, fun H' g => p G AD H' (Same.refl _) Ext.refl (.bl _) ⟨S.ss.same g, .bl _⟩⟩
        · exact p.elim
      · exact p.elim
    cases hce with
    | one q1 q2 =>
      refine mkE (pe_callB (call_isX j1 hz hd) hg hm hbb (pa_cons (pe_var (i := i) hN hv h1 h2) (pa_cons q1 pa_nil he2) he) (by decide) (by decide) he hpl) fun σ H Q G AD Fr env s S p => ?_
      obtain ⟨y1, y2, b, y3, y4⟩ := core S p
      exact ⟨_, y1, _, vfs, b, rfl, y2, .inl ⟨_, q2, one y3⟩, y4 H (Same.refl _)⟩
    | tup q1 q2 q3 =>
      refine mkE (pe_callB (call_isX j1 hz hd) hg hm hbb (pa_cons (pe_var (i := i) hN hv h1 h2) (pa_cons (pe_tup q1) pa_nil he2) he) (by decide) (by decide) he hpl) fun σ H Q G AD Fr env s S p => ?_
      obtain ⟨y1, y2, b, y3, y4⟩ := core S p
      refine ⟨_, y1, q3, fun t ht => ?_⟩
      exact ⟨_, vfs, b, rfl, same_upd ht _ _ y2, .inr ⟨t, _, _, rfl, upd_same, q2, y3⟩, y4 _ (same_upd ht)⟩
  | _ => exact er.elim
end
end DL
end

set_option Elab.async false
set_option linter.all false
set_option maxRecDepth 100000
set_option maxHeartbeats 4000000
noncomputable section
namespace DL
open PySem PySem.Spec PyProof.Rows L2

/-! ## o.f = e -/
def putFl (f : Str) (v : Fl) : List (Str × Fl) → List (Str × Fl)
  | [] => [(f, v)]
  | (g, x) :: r => if g = f then (g, v) :: r else (g, x) :: putFl f v r
theorem putFl_nd {T : TX} {G : Hp} {ad : List Str → Addr} {p : List Str} {f : Str} {y : V} {d : Fl} (h : NdF T G ad p (f, y) (f, d)) : ∀ {vfs : List (Str × V)} {fs : List (Str × Fl)}, Paired (NdF T G ad p) vfs fs → Paired (NdF T G ad p) (putF f y vfs) (putFl f d fs)
  | _, _, .nil => .cons h .nil
  | (n, v) :: vfs, (n', x) :: fs, .cons r t => by
    have e0 : n = n' := r.1
    subst e0
    show Paired _ (if n = f then (n, y) :: vfs else (n, v) :: putF f y vfs) (if n = f then (n, d) :: fs else (n, x) :: putFl f d fs)
    by_cases hn : n = f
    · subst hn; rw [if_pos rfl, if_pos rfl]; exact .cons h t
    · rw [if_neg hn, if_neg hn]; exact .cons r (putFl_nd h t)
def sPut (cs : List Str) (f : Str) (mo mv : En → M Val) : SM := fun env s => (stl mv env s).sb env fun v s1 => v.cD (fun y => (mo env s1).sb env fun o s2 => match o with
  | .m l p => match res s2 l p with
    | some (.ins c fs) => if c ∈ cs ∧ fs.length < 1000 then .ok .nx env (upS s2 l p (.ins c (putFl f (.d y) fs))) else .bad
    | _ => .bad
  | _ => .bad) .bad
section
variable {X : Cx} {Y : FC} {W : WX} {o e : Expr} {mo mv : En → M Val} {cs : List Str} {f : Str} {pos pos' : Pos}
theorem ds_put (hF : FldF X cs f) (ho : DE X Y W o mo) (hv : DE X Y W e mv) (hs : swapsWith e (some (.Attribute o f pos')) pos.line X.env = pure false := by rfl) : DS X Y W (.Assign [.Attribute o f pos'] e pos) (sPut cs f mo mv) :=
  mkS (ps_fld ho.pe hv.stl.pe hs) fun D σ H G AD Fr env s S p => by
    refine stepSE S p fun v s1 G1 AD1 H1 x h1 g1 e1 S1 r1 p1 => ?_
    refine d_case (k := fun y s1 => (mo env s1).sb env fun o s2 => match o with
      | .m l p => match res s2 l p with
        | some (.ins c fs) => if c ∈ cs ∧ fs.length < 1000 then .ok .nx env (upS s2 l p (.ins c (putFl f (.d y) fs))) else .bad
        | _ => .bad
      | _ => .bad) r1 p1 fun y hy ry p2 => ?_
    refine stepSE S1 p2 fun w s2 G2 AD2 H2 xo h2 g2 e2 S2 r2 p3 => ?_
    cases w with
    | d z => exact p3.elim
    | f t => exact p3.elim
    | m l q =>
      have p4 : PostS (tx X) Y W Fr G2 AD2 s2 (match res s2 l q with
        | some (.ins c fs) => if c ∈ cs ∧ fs.length < 1000 then .ok .nx env (upS s2 l q (.ins c (putFl f (.d y) fs))) else .bad
        | _ => .bad) D := p3
      split at p4
      · rename_i c fs hr
        split at p4
        · rename_i hc
          have hx := r2.2.2 _ hr
          subst hx
          obtain ⟨C, dx, vfs, k0, k1, k2⟩ := S2.ss.nd _ _ _ hr
          obtain ⟨C', j1, j2, j3⟩ := hF c hc.1
          rw [show (tx X).mg c = X.mg c from rfl, j1] at k0
          cases k0
          refine ⟨_, _, dx, vfs, rfl, k1, j2, j3, by rw [Paired.length k2]; exact hc.2, ?_⟩
          exact PostS.nx p4 (Same.refl _) ((Ext.upS hr).mono fun _ _ => trivial) ⟨S2.ss.write hr ⟨_, dx, _, j1, upd_same, putFl_nd ⟨rfl, Rep.mono g2 ry⟩ k2⟩, S2.en.mono (Same.refl _) (Ext.upS hr), by rw [upS_length]; exact S2.bl⟩
        · exact p4.elim
      · exact p4.elim
end
/-! ## packs of facts -/
structure DefOk (P : Program) (w : World) (K : PySem.W.Frag) (mg : Str → Option Value) (base : Heap) (d : He.DefD) (y : Str) (ps : List Str) (m : List Val → M Val) (k : Nat) : Prop where
  ex : ∃ f fd, mg y = some (.ref f) ∧ PySem.W.keepIn K (.ref f) = true ∧ FnD P w K mg base k f fd ps m ∧ Binds K fd ps [] ∧ FunD K d.name d.qual d.params d.body d.scope (d.dvs K) (d.kws K) f fd
structure MthOk (P : Program) (w : World) (K : PySem.W.Frag) (mg : Str → Option Value) (base : Heap) (c nm : Str) (ps : List Str) (m : List Val → M Val) (k : Nat) : Prop where
  ex : ∃ C g fd, mg c = some (.ref C) ∧ Cls K C ∧ Meth K C nm g ∧ PySem.W.selfFirst K C = true ∧ FnD P w K mg base k g fd ps m ∧ Binds K fd ps []
structure MkOk (P : Program) (w : World) (K : PySem.W.Frag) (mg : Str → Option Value) (base : Heap) (c : Str) (ps : List Str) (m : List Val → M Val) (k : Nat) : Prop where
  ex : ∃ C f fd, mg c = some (.ref C) ∧ Mk K C f ∧ FnD P w K mg base k f fd ps m ∧ Binds K fd ps []
structure XOk (P : Program) (w : World) (K : PySem.W.Frag) (mg : Str → Option Value) (base : Heap) (c f : Str) (k : Nat) : Prop where
  ex : ∃ C fI fd ps, mg c = some (.ref C) ∧ OexC K C ∧ PySem.W.findIn K (.ref C) f = some none ∧ PySem.W.findIn K (.ref C) "__init__" = some (some (.ref fI)) ∧ PySem.W.typeIn K (.ref fI) = some (.type "function") ∧ FnOk P w K mg base (L2.CX P w) k fI fd ps (spXK K f) ∧ Binds K fd ps []
/-- a class's fields -/
def FldOk (K : PySem.W.Frag) (mg : Str → Option Value) (c : Str) (fs : List Str) : Prop := ∃ C, mg c = some (.ref C) ∧ Cls K C ∧ ∀ f ∈ fs, NoAttr K C f
def FldsOk (K : PySem.W.Frag) (mg : Str → Option Value) (cs : List Str) (f : Str) : Prop := ∀ c ∈ cs, ∃ C, mg c = some (.ref C) ∧ Cls K C ∧ NoAttr K C f
section
variable {X : Cx} {Y : FC} {W : WX} {d : He.DefD} {y c nm : Str} {ps : List Str} {m : List Val → M Val} {k kk n : Nat} {e a b : Expr} {es : List Expr} {mv : En → M (List Val)} {ma mb : En → M Val} {p pos : Pos}
theorem de_fn (F : DefOk X.prog X.w X.K X.mg X.base d y ps m k) (hr : Room kk X.A) (hk : k ≤ kk) (tk : Takes X W) (hg : Gl X y) (ha : DR X Y W (e :: es) mv) (hn : ps.length = (e :: es).length := by rfl)
    (hdb : (y == ("__debug__" : Str)) = false := by decide) (he : starEach (e :: es) X.env = (false, eval e X.env) :: starEach es X.env := by rfl) (hpl : (backTo pos (starEach es X.env)).any (·.1) = false := by rfl) : DE X Y W (.Call (.Name y p) (e :: es) [] pos) (eCall m mv) := by
  obtain ⟨f, fd, h1, h2, h3, h4, _⟩ := F.ex
  exact de_call (cal_fn h3 (hr.mono hk) rfl h4 tk hn) hg h1 h2 ha rfl hdb he hpl
theorem de_fn0 (F : DefOk X.prog X.w X.K X.mg X.base d y [] m k) (hr : Room kk X.A) (hk : k ≤ kk) (tk : Takes X W) (hg : Gl X y) (hdb : (y == ("__debug__" : Str)) = false := by decide) : DE X Y W (.Call (.Name y p) [] [] pos) (eCall m rNil) := by
  obtain ⟨f, fd, h1, h2, h3, h4, _⟩ := F.ex
  exact de_call0 (cal_fn h3 (hr.mono hk) rfl h4 tk rfl) hg h1 h2 hdb
theorem de_mk (F : MkOk X.prog X.w X.K X.mg X.base c ps m k) (hr : Room kk X.A) (hk : k + 1 ≤ kk) (tk : Takes X W) (hg : Gl X c) (ha : DR X Y W (e :: es) mv) (hn : (e :: es).length + 1 = ps.length := by rfl)
    (hdb : (c == ("__debug__" : Str)) = false := by decide) (he : starEach (e :: es) X.env = (false, eval e X.env) :: starEach es X.env := by rfl) (hpl : (backTo pos (starEach es X.env)).any (·.1) = false := by rfl) : DE X Y W (.Call (.Name c p) (e :: es) [] pos) (eMake c m mv) := by
  obtain ⟨C, f, fd, h1, h2, h3, h4⟩ := F.ex
  exact de_make h2 h3 (hr.mono hk) hg h1 h4 tk ha hn hdb he hpl
theorem mth_f (F : MthOk X.prog X.w X.K X.mg X.base c nm ps m k) (hr : Room kk X.A) (hk : k ≤ kk) (tk : Takes X W) (hn : ps.length = n + 1) : MethF X W c nm n m := by
  obtain ⟨C, g, fd, h1, h2, h3, h4, h5, h6⟩ := F.ex
  exact ⟨C, g, h1, h2, h3, cal_fn h5 (hr.mono hk) rfl h6 tk hn⟩
theorem own_f (F : MthOk X.prog X.w X.K X.mg X.base c nm ps m k) (hr : Room kk X.A) (hk : k ≤ kk) (tk : Takes X W) (hn : ps.length = n) : ∃ C g, OwnF X W nm c n m C g := by
  obtain ⟨C, g, fd, h1, h2, h3, h4, h5, h6⟩ := F.ex
  exact ⟨C, g, h1, h4, h3.at_, h3.fn, cal_fn h5 (hr.mono hk) rfl h6 tk hn⟩
theorem oe_same {op : Operator} (F : MthOk X.prog X.w X.K X.mg X.base c (PySem.dunder op.info.2) ps m k) (hr : Room kk X.A) (hk : k ≤ kk) (tk : Takes X W) (hn : ps.length = 2) : OpE X W (binaryOp op) (ownS c m) := by
  obtain ⟨C, g, h⟩ := own_f F hr hk tk hn
  exact oe_ownS h
theorem de_invf (F : MthOk X.prog X.w X.K X.mg X.base c "__invert__" ps m k) (hr : Room kk X.A) (hk : k ≤ kk) (tk : Takes X W) (hn : ps.length = 1) (ha : DE X Y W a ma) : DE X Y W (.UnaryOp .Invert a pos) (eInv c m ma) := by
  obtain ⟨C, g, h⟩ := own_f F hr hk tk hn
  exact de_inv h ha
theorem fnBad {P : Program} {w : World} {K : PySem.W.Frag} {mg : Str → Option Value} {base : Heap} {f : Addr} {fd : FuncData} : FnD P w K mg base k f fd ps (fun _ => bad) :=
  ⟨fun vs H Q E h => h.1, fun A outer s H args us vs Q E hr e0 hb r h => by
    obtain ⟨_, G, AD, Fr, st, args, _, _, p⟩ := h
    exact p.elim⟩
theorem fnMono {P : Program} {w : World} {K : PySem.W.Frag} {mg : Str → Option Value} {base : Heap} {f : Addr} {fd : FuncData} (F : FnD P w K mg base k f fd ps m) (h : k ≤ kk) : FnD P w K mg base kk f fd ps m :=
  ⟨F.len, fun A outer s H args us vs Q E hr e0 hb r hs => F.run A outer s H args us vs Q E (hr.mono h) e0 hb r hs⟩
theorem ds_rais {x : Expr} {f : Str} {mx : En → M Val} {rp : Pos} (R : XOk X.prog X.w X.K X.mg X.base c f k) (hr : Room kk X.A) (hk : k + 1 ≤ kk) (hc : X.calm = true) (tk : Takes X W) (hg : Gl X c) (h : DE X Y W x mx)
    (hdb : (c == ("__debug__" : Str)) = false := by decide) (he : starEach [x] X.env = (false, eval x X.env) :: starEach [] X.env := by rfl) (hpl : (backTo pos (starEach [] X.env)).any (·.1) = false := by rfl) :
    DS X Y W (.Raise (some (.Call (.Name c p) [x] [] pos)) none rp) (sRaise c f mx) := by
  obtain ⟨C, fI, fd, ps, h1, h2, h3, h4, h5, h6, h7⟩ := R.ex
  exact ds_raise ⟨h1, h2, h3, h4, h5, h6, h7⟩ (hr.mono hk) hc tk hg h hdb he hpl
end
theorem fnDn {P : Program} {w : World} {K : PySem.W.Frag} {mg : Str → Option Value} {base : Heap} {x qual : Str} {params : Arguments} {body : List Stmt} {scope : Scope} {dvs : List V} {kws : List (Str × V)} {f : Addr} {fd : FuncData} {N ps : List Str} {k n : Nat} (nk : Nat) (ow : List (Nat × Nat)) (mb : Nat → SM) (F : FunD K x qual params body scope dvs kws f fd) (S : FnScope N ps scope) (hn : N.length = n)
    (hbody : ∀ (cdv : Value) (A : Around) (outer : List Env) (s : Shared) (H : Hp) (E : XK) (b : Nat), Room k (A.deeper (envOfC qual scope s.heap.objs.size f cdv)) →
      DB (cxOf (L2.CX P w) P w K mg base N qual scope f cdv A outer s H E) (fc b nk ow) (fun cls dx _ H' => E cls dx H') body (mb b)) : FnD P w K mg base (k + 1) f fd ps (runF nk n mb) := by
  subst hn
  exact fnD F S hbody
end DL
end

set_option Elab.async false
set_option linter.all false
set_option maxRecDepth 100000
set_option maxHeartbeats 4000000
noncomputable section
namespace DL
open PySem PySem.Spec PyProof.Rows L2

/-! ## f(k = v, ..): keywords alone -/
structure DKw (X : Cx) (Y : FC) (W : WX) (kws : List Keyword) (m : En → M (List Val)) : Prop where
  pk : PK X kws (tR X Y W m)
  ln : ∀ env s vs s', m env s = .ok vs s' → vs.length = kws.length
theorem pkImp {X : Cx} {kws : List Keyword} {t t' : TA} (h : PK X kws t) (i : ∀ σ H Q, t' σ H Q → t σ H Q) : PK X kws t' := ⟨fun pos pins s σ H Q I q => h.run pos pins s σ H Q I (i σ H Q q)⟩
section
variable {X : Cx} {Y : FC} {W : WX} {e : Expr} {kws : List Keyword} {nm : Option Str} {ma : En → M Val} {mv : En → M (List Val)} {pos kpos p : Pos}
theorem dk_nil : DKw X Y W [] rNil := ⟨pkImp pk_nil fun σ H Q ⟨n, G, AD, Fr, env, s, S, _, _, p⟩ => p G AD H (Same.refl _) Ext.refl [] S.ss .nil, fun _ _ _ _ h => by cases h; rfl⟩
theorem dk_cons (ha : DE X Y W e ma) (hr : DKw X Y W kws mv) : DKw X Y W (⟨nm, e, kpos⟩ :: kws) (rCons ma mv) :=
  ⟨pkImp (pk_cons ha.stl.pe hr.pk) fun σ H Q ⟨n, G, AD, Fr, env, s, S, hn1, hn2, p⟩ => by
    refine stepE (k := fun v => bnd (mv env) fun vs => ret (v :: vs)) S p fun v s1 G1 AD1 H1 x h1 g1 e1 S1 r1 p1 => ?_
    refine stepR (k := fun vs => ret (v :: vs)) S1 (fun l hl => by have := e1.len; omega) p1 fun vs s2 G2 AD2 H2 xs h2 g2 e2 S2 r2 p2 => ?_
    exact p2 G2 AD2 H2 (Same.refl _) Ext.refl (x :: xs) S2.ss (.cons ((r1.vr (stl_notf h1)).monoQ g2 e2) r2), fun env s vs s' h => by
    obtain ⟨v, s1, _, h2⟩ := bnd_inv h
    obtain ⟨ws, s2, h3, h4⟩ := bnd_inv h2
    cases h4
    rw [List.length_cons, List.length_cons, hr.ln _ _ _ _ h3]⟩
end
/-- how the keywords' values stand in the parameters' order -/
structure Perm (g : {α : Type} → List α → List α) (n : Nat) : Prop where
  len : ∀ {α : Type} (l : List α), l.length = n → (g l).length = n
  vals : ∀ {vs : List V} {us : List Value}, vs.length = n → Vals vs us → Vals (g vs) (g us)
  vrs : ∀ {T : TX} {G : Hp} {AD : AM} {s : Sto} {vs : List Val} {xs : List V}, vs.length = n → VRs T G AD s vs xs → VRs T G AD s (g vs) (g xs)
theorem perm_id {n : Nat} : Perm (fun l => l) n := ⟨fun _ h => h, fun _ h => h, fun _ h => h⟩
structure DefOkK (P : Program) (w : World) (K : PySem.W.Frag) (mg : Str → Option Value) (base : Heap) (y : Str) (ps ks : List Str) (g : {α : Type} → List α → List α) (m : List Val → M Val) (k : Nat) : Prop where
  ex : ∃ f fd, mg y = some (.ref f) ∧ PySem.W.keepIn K (.ref f) = true ∧ FnD P w K mg base k f fd ps m ∧ ∀ (s : Shared) (ws : List Value), ws.length = ks.length → BindsTo s fd ⟨[], ks.zip ws⟩ (ps.zip (g ws))
section
variable {X : Cx} {Y : FC} {W : WX} {y : Str} {ps ks : List Str} {g : {α : Type} → List α → List α} {m : List Val → M Val} {k kk : Nat} {kws : List Keyword} {mv : En → M (List Val)} {p pos : Pos}
theorem de_fnK (F : DefOkK X.prog X.w X.K X.mg X.base y ps ks g m k) (hp : Perm g ps.length) (hr : Room kk X.A) (hk : k ≤ kk) (tk : Takes X W) (hg : Gl X y) (ha : DKw X Y W kws mv) (hn : ps.length = kws.length := by rfl) (hn2 : ks.length = kws.length := by rfl)
    (hall : (backToKw pos (keywordEach kws X.env)).all (·.1.isSome) = true := by rfl) (hks : (backToKw pos (keywordEach kws X.env)).filterMap (·.1) = ks := by rfl) (hdb : (y == ("__debug__" : Str)) = false := by decide)
    (hpl : ((backTo pos (starEach [] X.env)).any (·.1) || (backToKw pos (keywordEach kws X.env)).any (·.1.isNone)) = false := by rfl) : DE X Y W (.Call (.Name y p) [] kws pos) (eCall (fun vs => m (g vs)) mv) := by
  obtain ⟨f, fd, h1, h2, h3, h4⟩ := F.ex
  refine mkE (t := fun σ H Q => tR X Y W mv σ H fun vs H1 => vs.length = kws.length ∧ spD (tx X) ps.length m (g vs) H1 Q (WE W σ)) ⟨fun pins s σ H Q I h => ?_⟩ fun σ H Q G AD Fr env s S p => ?_
  · refine wpAny_Call_Name_kw (ld_glob I hg h1 ?_ hdb)
    refine PySem.W.callWith_KW0 (h₀ := X.base) I.ok.mod.kin h2 hall (thn (ha.pk.run pos pins s σ H _ I h) fun us s1 ⟨vs, H1, I1, r, hl, q⟩ => ⟨I1.kIn, ?_⟩) hpl
    rw [hks]
    have hus : us.length = ks.length := by rw [← r.length, hl, hn2]
    have r2 : Vals (g vs) (g us) := hp.vals (by rw [hl, hn]) r
    refine wpAny_call (codeAny_mono (h3.run X.A X.stack s1 H1 ⟨[], ks.zip us⟩ (g us) (g vs) Q (WE W σ) (hr.mono hk) I1.env0 (h4 s1 us hus) r2 q) fun z s' hq => ?_)
    cases z with
    | error er => exact passAt tk σ pins H1 s1 er s' I1 hq
    | ok fl =>
      cases fl with
      | ret u => exact I1.after hq
      | next => exact hq.elim
      | brk => exact hq.elim
      | cont => exact hq.elim
  · refine args_post (n := ps.length) S p fun vs s1 G1 AD1 H1 xs e1 g1 x1 S1 r1 q => ?_
    have hl : vs.length = kws.length := ha.ln _ _ _ _ e1
    have hx : xs.length = kws.length := by rw [← r1.len, hl]
    obtain ⟨_, G2, AD2, Fr2, s2, args, S2, rs, p2⟩ := q (by rw [hx, hn])
    exact ⟨hx, hp.len xs (by rw [hx, hn]), G2, AD2, Fr2, s2, g args, S2, hp.vrs (by rw [rs.len, hx, hn]) rs, p2⟩
end
end DL
end

set_option Elab.async false
set_option linter.all false
set_option maxRecDepth 100000
set_option maxHeartbeats 4000000
noncomputable section
namespace DL
open PySem PySem.Spec PyProof.Rows L2 He

/-! ## facts that the head's run tells by Bools -/
abbrev Ck := PySem.W.Frag → Bool
def ckGlo (x : Str) : Ck := fun K => eqO (PySem.W.nsIn K mainGlobals x) (some (some (.ref (ga K x))))
def ckFree (x : Str) : Ck := fun K => eqO (PySem.W.nsIn K mainGlobals x) (some none)
def ckStr (x z : Str) : Ck := fun K => (Fa.str x z).ok K
def ckInt (x : Str) (z : Int) : Ck := fun K => (Fa.int x z).ok K
def ckTups (x : Str) (zs : List Str) : Ck := fun K => ckGlo x K && tupB K x (zs.map Dv.str)
def ckCls (c : Str) : Ck := fun K => ckGlo c K && (Fa.cls c).ok K
def ckNo (c f : Str) : Ck := fun K => eqO (PySem.W.findIn K (.ref (ga K c)) f) (some none)
def ckMth (c m : Str) : Ck := fun K => ckCls c K && ((Fa.meth c m).ok K && PySem.W.selfFirst K (ga K c))
def ckMk (c : Str) : Ck := fun K => ckGlo c K && (Fa.mkr c).ok K
def oexB (K : PySem.W.Frag) (C : Addr) : Bool := match K.lookup C with
  | some ⟨.type t, _, .cls cd, sl⟩ => (match cd.mro, sl.toList with
    | .ref C' :: bm, [_, _, _, _, some (.builtin n), _] => decide (t = "type") && (decide (C' = C) && (decide (n = "ValueError.__new__") && (!cd.hasDel && (cd.hasDict && PySem.HandSPX.refsVE bm))))
    | _, _ => false)
  | _ => false
def ckX (c f : Str) (ini : Str × Option Str) : Ck := fun K => ckGlo c K && (oexB K (ga K c) && (eqO (PySem.W.findIn K (.ref (ga K c)) "__setattr__") (some (some (.builtin "object.__setattr__"))) && (decide (PySem.W.subIn K (.ref (ga K c)) (.type "BaseException") = some true) &&
  (decide (PySem.W.typeIn K (.ref (ga K c)) = some (.type "type")) && (PySem.W.keepIn K (.ref (ga K c)) && (ckNo c f K && (eqO (PySem.W.findIn K (.ref (ga K c)) "__init__") (some (some (.ref (fAd K ini)))) && decide (PySem.W.typeIn K (.ref (fAd K ini)) = some (.type "function")))))))))
def ckXc (c : Str) : Ck := fun K => eqO (PySem.W.findIn K (.ref (ga K c)) "__getattribute__") (some (some (.builtin "BaseException.__getattribute__"))) && (eqO (PySem.W.findIn K (.ref (ga K c)) "__getattr__") (some none) && (decide (PySem.W.subIn K (.ref (ga K c)) (.type "BaseException") = some true) &&
  (PySem.W.hasDictIn K (ga K c) && (eqO (PySem.W.findIn K (.ref (ga K c)) "__class__") (some (some (.builtin "object.__class__"))) && (decide (PySem.W.specialIn K (.builtin "object.__class__") "__get__" = some (some (.builtin "getset_descriptor.__get__"))) &&
  (decide (PySem.W.takesIn K (.builtin "object.__class__") = some true) && decide (PySem.W.mroIn K (ga K c) (.type "object") = some true)))))))
def ckIns (c : Str) : Ck := fun K => ckCls c K && (eqO (PySem.W.findIn K (.ref (ga K c)) "__class__") (some (some (.builtin "object.__class__"))) && (decide (PySem.W.specialIn K (.builtin "object.__class__") "__get__" = some (some (.builtin "getset_descriptor.__get__"))) &&
  (decide (PySem.W.takesIn K (.builtin "object.__class__") = some true) && decide (PySem.W.mroIn K (ga K c) (.type "object") = some true))))
def ckIsf (n : Str) (tb : List (Str × Bool)) (nb : List (String × Bool)) : Ck := fun K => ckGlo n K && (tb.all (fun q => ckIns q.1 K && decide (PySem.W.kitOne K (.ref (ga K q.1)) (.ref (ga K n)) = some q.2)) && nb.all fun q => decide (PySem.W.kitOne K (.type q.1) (.ref (ga K n)) = some q.2))
def ckHit (n : Str) (tb : List (Str × Bool)) : Ck := fun K => tb.all fun q => ckGlo q.1 K && decide (PySem.W.exmOne K (.ref (ga K q.1)) (.ref (ga K n)) = some q.2)
def ckXis (ns : List Str) (tb : List (Str × Bool)) : Ck := fun K => tb.all fun q => ckGlo q.1 K && (ckXc q.1 K && decide (PySem.W.kitAny K (.ref (ga K q.1)) (ns.map fun n => .ref (ga K n)) = some q.2))
def ckXFs (xs : List Str) (f : Str) : Ck := fun K => xs.all fun c => ckGlo c K && (ckXc c K && ckNo c f K)
def ckFld (cs : List Str) (f : Str) : Ck := fun K => cs.all fun c => ckCls c K && ckNo c f K
def isRef : Option Value → Bool
  | none => true
  | some (.ref _) => true
  | _ => false
/-- C op int -/
def ckIOp (c : Str) (op : Operator) : Ck := fun K => ckGlo c K && ((match PySem.W.findIn K (.ref (ga K c)) (dunderR op.info.2) with
  | some rc => isRef rc
  | none => false) && ((PySem.W.findIn K (.type "int") (PySem.dunder op.info.2)).isSome && ((PySem.W.findIn K (.type "int") (dunderR op.info.2)).isSome && decide (PySem.W.subIn K (.type "int") (.ref (ga K c)) = some false))))
/-- what all leans on -/
structure Sx (K : PySem.W.Frag) (mg : Str → Option Value) : Prop where
  h : ∃ h : Heap, K.In h ∧ h.Ns mainGlobals mg
section
variable {K : PySem.W.Frag} {mg : Str → Option Value} {x c f n : Str}
theorem ck_glo (S : Sx K mg) (h : ckGlo x K = true) : mg x = some (.ref (ga K x)) := by
  obtain ⟨h0, X, G⟩ := S.h
  exact PySem.W.mg_of X G (eqO_ok h)
theorem ck_free (S : Sx K mg) (h : ckFree x K = true) : mg x = none := by
  obtain ⟨h0, X, G⟩ := S.h
  exact PySem.W.mg_none_of X G (eqO_ok h)
theorem ck_str {z : Str} (S : Sx K mg) (h : ckStr x z K = true) : ∃ t, mg x = some (.str z t) := by
  obtain ⟨h0, X, G⟩ := S.h
  exact str_ok X G h
theorem ck_int {z : Int} (S : Sx K mg) (h : ckInt x z K = true) : ∃ t, mg x = some (.int z t) := by
  obtain ⟨h0, X, G⟩ := S.h
  exact int_ok X G h
theorem ck_tups {zs : List Str} (h : ckTups x zs K = true) {P : Program} {w : World} (G : Hp) : Rep ⟨P, w, K, mg⟩ G (.ref (ga K x)) (.tup (zs.map D.str)) := by
  have h2 := tupB_ok (ba h).2 G
  rw [List.map_map] at h2
  exact .tup h2 (repL_strs zs)
theorem ck_cls (S : Sx K mg) (h : ckCls c K = true) : mg c = some (.ref (ga K c)) ∧ Cls K (ga K c) := ⟨ck_glo S (ba h).1, cls_ok (ba h).2⟩
theorem ck_no (h : ckNo c f K = true) : NoAttr K (ga K c) f := eqO_ok h
theorem ck_fld {cs : List Str} (S : Sx K mg) (h : ckFld cs f K = true) : FldsOk K mg cs f := fun c hc => by
  obtain ⟨h1, h2⟩ := ba (List.all_eq_true.mp h c hc)
  obtain ⟨k1, k2⟩ := ck_cls S h1
  exact ⟨_, k1, k2, ck_no h2⟩
theorem ck_xc (h : ckXc c K = true) : L2.ExcC K (ga K c) ∧ L2.XfC K (ga K c) := by
  obtain ⟨h1, h⟩ := ba h
  obtain ⟨h2, h⟩ := ba h
  obtain ⟨h3, h⟩ := ba h
  obtain ⟨h4, h⟩ := ba h
  obtain ⟨h5, h⟩ := ba h
  obtain ⟨h6, h⟩ := ba h
  obtain ⟨h7, h8⟩ := ba h
  exact ⟨⟨eqO_ok h1, eqO_ok h2, of_decide_eq_true h3, h4, eqO_ok h5, of_decide_eq_true h6, of_decide_eq_true h7, of_decide_eq_true h8⟩, ⟨eqO_ok h1, eqO_ok h2, of_decide_eq_true h3, h4⟩⟩
theorem ck_xfs {xs : List Str} (S : Sx K mg) (h : ckXFs xs f K = true) : XFs K mg xs f := fun c hc => by
  obtain ⟨h1, h2⟩ := ba (List.all_eq_true.mp h c hc)
  obtain ⟨h3, h4⟩ := ba h2
  exact ⟨_, ck_glo S h1, (ck_xc h3).1, (ck_xc h3).2, eqO_ok h4⟩
theorem lk_all {p : Str → Bool → Bool} : ∀ {tb : List (Str × Bool)}, tb.all (fun q => p q.1 q.2) = true → ∀ c b, tb.lookup c = some b → p c b = true
  | [], _, c, b, h => by cases h
  | (c0, b0) :: tb, ha, c, b, h => by
    rw [List.all_cons, Bool.and_eq_true] at ha
    rw [List.lookup_cons] at h
    cases e : c == c0 with
    | true => rw [e] at h; cases h; rw [beq_iff_eq.mp e]; exact ha.1
    | false => rw [e] at h; exact lk_all ha.2 c b h
theorem lk_allS {p : String → Bool → Bool} : ∀ {tb : List (String × Bool)}, tb.all (fun q => p q.1 q.2) = true → ∀ c b, tb.lookup c = some b → p c b = true
  | [], _, c, b, h => by cases h
  | (c0, b0) :: tb, ha, c, b, h => by
    rw [List.all_cons, Bool.and_eq_true] at ha
    rw [List.lookup_cons] at h
    cases e : c == c0 with
    | true => rw [e] at h; cases h; rw [beq_iff_eq.mp e]; exact ha.1
    | false => rw [e] at h; exact lk_allS ha.2 c b h
theorem ck_hit {tb : List (Str × Bool)} (S : Sx K mg) (h : ckHit n tb K = true) : ∀ c b, tb.lookup c = some b → ∃ C, mg c = some (.ref C) ∧ PySem.W.exmOne K (.ref C) (.ref (ga K n)) = some b := fun c b hl => by
  obtain ⟨h1, h2⟩ := ba (lk_all (p := fun c b => ckGlo c K && decide (PySem.W.exmOne K (.ref (ga K c)) (.ref (ga K n)) = some b)) h c b hl)
  exact ⟨_, ck_glo S h1, of_decide_eq_true h2⟩
theorem ck_xis {ns : List Str} {tb : List (Str × Bool)} (S : Sx K mg) (h : ckXis ns tb K = true) : XIs K mg tb (ns.map fun n => .ref (ga K n)) := fun c b hl => by
  obtain ⟨h1, h2⟩ := ba (lk_all (p := fun c b => ckGlo c K && (ckXc c K && decide (PySem.W.kitAny K (.ref (ga K c)) (ns.map fun n => .ref (ga K n)) = some b))) h c b hl)
  obtain ⟨h3, h4⟩ := ba h2
  exact ⟨_, ck_glo S h1, (ck_xc h3).1, of_decide_eq_true h4⟩
theorem ck_ins (S : Sx K mg) (h : ckIns c K = true) : mg c = some (.ref (ga K c)) ∧ InsTy K (ga K c) := by
  obtain ⟨h1, h⟩ := ba h
  obtain ⟨h2, h⟩ := ba h
  obtain ⟨h3, h⟩ := ba h
  obtain ⟨h4, h5⟩ := ba h
  obtain ⟨k1, k2⟩ := ck_cls S h1
  exact ⟨k1, k2, eqO_ok h2, of_decide_eq_true h3, of_decide_eq_true h4, of_decide_eq_true h5⟩
theorem ck_isf {X : Cx} {tb : List (Str × Bool)} {nb : List (String × Bool)} (S : Sx X.K X.mg) (h : ckIsf n tb nb X.K = true) : IsF X (.ref (ga X.K n)) tb nb := by
  obtain ⟨h0, h⟩ := ba h
  obtain ⟨h1, h2⟩ := ba h
  refine ⟨fun c b hl => ?_, fun m b hl => ?_⟩
  · obtain ⟨h3, h4⟩ := ba (lk_all (p := fun c b => ckIns c X.K && decide (PySem.W.kitOne X.K (.ref (ga X.K c)) (.ref (ga X.K n)) = some b)) h1 c b hl)
    obtain ⟨k1, k2⟩ := ck_ins S h3
    exact ⟨_, k1, k2, of_decide_eq_true h4⟩
  · exact of_decide_eq_true (lk_allS (p := fun m b => decide (PySem.W.kitOne X.K (.type m) (.ref (ga X.K n)) = some b)) h2 m b hl)
theorem oex_ok (h : oexB K (ga K c) = true) : ∃ nm q N bs bm sn sub ab col dd k0 k1 k2 k3 k5, K.lookup (ga K c) = some (excClassObj nm q (ga K c) N bs bm true sn sub ab col dd k0 k1 k2 k3 k5 "ValueError.__new__") ∧ PySem.HandSPX.refsVE bm = true := by
  unfold oexB at h
  split at h
  · rename_i t dd cd sl ho
    split at h
    · rename_i C' bm k0 k1 k2 k3 n k5 hm hs
      simp only [Bool.and_eq_true, decide_eq_true_eq, Bool.not_eq_true'] at h
      obtain ⟨h1, h2, h3, h4, h5, h6⟩ := h
      obtain ⟨nm, bs, mro, ns, qn, hd, sn, sb, ab, col, del⟩ := cd
      obtain ⟨l⟩ := sl
      simp only at hm h4 h5 hs
      subst hm h4 h5 hs h1 h3
      rw [h2] at ho
      exact ⟨nm, qn, ns, bs, bm, sn, sb, ab, col, dd, k0, k1, k2, k3, k5, ho, h6⟩
    · cases h
  · cases h
theorem ck_x {P : Program} {w : World} {base : Heap} {ini : Str × Option Str} {fd : FuncData} {ps : List Str} {k : Nat} (S : Sx K mg) (h : ckX c f ini K = true) (F : FnOk P w K mg base (L2.CX P w) k (fAd K ini) fd ps (spXK K f)) (hb : Binds K fd ps []) : XOk P w K mg base c f k := by
  obtain ⟨h1, h⟩ := ba h
  obtain ⟨h2, h⟩ := ba h
  obtain ⟨h3, h⟩ := ba h
  obtain ⟨h4, h⟩ := ba h
  obtain ⟨h5, h⟩ := ba h
  obtain ⟨h6, h⟩ := ba h
  obtain ⟨h7, h⟩ := ba h
  obtain ⟨h8, h9⟩ := ba h
  exact ⟨ga K c, _, fd, ps, ck_glo S h1, ⟨oex_ok h2, eqO_ok h3, of_decide_eq_true h4, of_decide_eq_true h5, h6⟩, eqO_ok h7, eqO_ok h8, of_decide_eq_true h9, F, hb⟩
theorem ck_mth {P : Program} {w : World} {base : Heap} {m : Str} {fd : FuncData} {ps : List Str} {k : Nat} {mm : List Val → M Val} (S : Sx K mg) (h : ckMth c m K = true) (F : FnD P w K mg base k (fAd K (c, some m)) fd ps mm) (hb : Binds K fd ps []) : MthOk P w K mg base c m ps mm k := by
  obtain ⟨h1, h⟩ := ba h
  obtain ⟨h2, h3⟩ := ba h
  obtain ⟨k1, k2⟩ := ck_cls S h1
  exact ⟨_, _, fd, k1, k2, meth_ok h2, h3, F, hb⟩
theorem ck_mk {P : Program} {w : World} {base : Heap} {fd : FuncData} {ps : List Str} {k : Nat} {mm : List Val → M Val} (S : Sx K mg) (h : ckMk c K = true) (F : FnD P w K mg base k (fAd K (c, some "__init__")) fd ps mm) (hb : Binds K fd ps []) : MkOk P w K mg base c ps mm k := by
  obtain ⟨h1, h2⟩ := ba h
  exact ⟨_, _, fd, ck_glo S h1, mkr_ok h2, F, hb⟩
theorem ck_fn {P : Program} {w : World} {base : Heap} {fd : FuncData} {ps : List Str} {k : Nat} {mm : List Val → M Val} (S : Sx K mg) (h : ckGlo c K = true) (kp : PySem.W.keepIn K (.ref (fAd K (c, none))) = true) (F : FnD P w K mg base k (fAd K (c, none)) fd ps mm) (hb : Binds K fd ps []) {d : DefD} (hF : FunD K d.name d.qual d.params d.body d.scope (d.dvs K) (d.kws K) (fAd K (c, none)) fd) : DefOk P w K mg base d c ps mm k :=
  ⟨_, fd, ck_glo S h, kp, F, hb, hF⟩
theorem kw_of {P : Program} {w : World} {base : Heap} {ps ks : List Str} {k : Nat} {mm : List Val → M Val} {d : DefD} {g : {α : Type} → List α → List α} (D : DefOk P w K mg base d c ps mm k) (hd : d.dfl = [])
    (h : ∀ (kV doc pm : Value) (an : Option Addr) (cdv ct : Value) (us : List Value), us.length = ks.length → bindArgs (PySem.W.fnOf d.name d.qual d.params d.body d.scope .none kV doc pm an cdv ct) ⟨[], ks.zip us⟩ = pure (ps.zip (g us))) : DefOkK P w K mg base c ps ks g mm k := by
  obtain ⟨f, fd, h1, h2, h3, _, F⟩ := D.ex
  refine ⟨f, fd, h1, h2, h3, fun s ws hl => ?_⟩
  obtain ⟨oc, od, dV, kV, doc, pm, an, cdv, ct, osl, rfl, lk, hcd, hD, hK⟩ := F.ex
  rcases hD with ⟨_, rfl⟩ | ⟨e, _⟩
  · exact .of_eq (h kV doc pm an cdv ct ws hl)
  · exact absurd (by unfold DefD.dvs; rw [hd]; rfl) e
end
section
variable {X : Cx} {W : WX} {c : Str} {m : List Val → M Val} {ps : List Str} {k kk : Nat}
theorem oe_int {op : Operator} (F : MthOk X.prog X.w X.K X.mg X.base c (PySem.dunder op.info.2) ps m k) (hr : Room kk X.A) (hk : k ≤ kk) (tk : Takes X W) (hn : ps.length = 2) (S : Sx X.K X.mg) (h : ckIOp c op X.K = true) : OpE X W (binaryOp op) (ownI c m) := by
  obtain ⟨C, g, hO⟩ := own_f F hr hk tk hn
  obtain ⟨h1, h⟩ := ba h
  obtain ⟨h2, h⟩ := ba h
  obtain ⟨h3, h⟩ := ba h
  obtain ⟨h4, h5⟩ := ba h
  have hC : C = ga X.K c := Value.ref.inj (Option.some.inj (hO.mg.symm.trans (ck_glo S h1)))
  subst hC
  obtain ⟨fo, k3⟩ := Option.isSome_iff_exists.mp h3
  obtain ⟨ro, k4⟩ := Option.isSome_iff_exists.mp h4
  cases hR : PySem.W.findIn X.K (.ref (ga X.K c)) (dunderR op.info.2) with
  | none => rw [hR] at h2; cases h2
  | some rc =>
    rw [hR] at h2
    refine oe_ownI hO hR ?_ k3 k4 (of_decide_eq_true h5)
    cases rc with
    | none => exact .inl rfl
    | some v =>
      cases v with
      | ref a => exact .inr ⟨a, rfl⟩
      | _ => cases h2
end
end DL
end

set_option Elab.async false
set_option linter.all false
set_option maxRecDepth 100000
set_option maxHeartbeats 4000000
noncomputable section
namespace DL
open PySem PySem.Spec PyProof.Rows L2

/-! ## the law's end -/
def sp0 (T : TX) (n : Nat) (m : List Val → M Val) : Sp := fun vs H Q _ => spD T n m vs H Q (fun _ _ _ => False)
theorem fn0 {P : Program} {w : World} {K : PySem.W.Frag} {mg : Str → Option Value} {base : Heap} {k : Nat} {f : Addr} {fd : FuncData} {ps : List Str} {m : List Val → M Val} (F : FnD P w K mg base k f fd ps m) : FnOk P w K mg base CX0 k f fd ps (sp0 ⟨P, w, K, mg⟩ ps.length m) :=
  ⟨fun vs H Q E h => h.1, fun A outer s H args us vs Q E hr e0 hb r h => codeAny_mono (F.run A outer s H args us vs Q (fun _ _ _ => False) hr e0 hb r h) fun z s' hq => by
    cases z with
    | error er =>
      obtain ⟨_, _, _, _, _, _, _, _, _, _, _, _, q⟩ := hq
      exact q.elim
    | ok fl => cases fl <;> exact hq⟩
theorem law_sp {T : TX} {m : List Val → M Val} {n : Nat} (hm : ∀ ns : List Int, ns.length ≤ n → ∃ s', m [.d (.scr (ns.map .int))] [] = .ok (.d (.bl true)) s') (H : Hp) (a : Addr) (ns : List Int) (hl : ns.length ≤ n) (hS : SqL T.K H a (ns.map V.int)) (E : XK) : sp0 T 1 m [.ref a] H (fun v _ => v = .bl true) E := by
  obtain ⟨s', hs⟩ := hm ns hl
  have nores : ∀ l p o, res ([] : Sto) l p = some o → False := fun l p o h => by have := res_lt h; exact absurd this (Nat.not_lt_zero _)
  have rep : ∀ l : List Int, RepL T H (l.map V.int) (l.map D.int) := fun l => by
    induction l with
    | nil => exact .nil
    | cons i r ih => exact .cons (.int i) ih
  refine ⟨rfl, H, fun _ _ => 0, fun _ => none, [], [.d (.scr (ns.map .int))], ⟨Same.refl _, fun a o h => (nomatch h), fun a o h => (nomatch h), fun l p o h => (nores l p o h).elim, fun l p o h => (nores l p o h).elim, fun l p o h => (nores l p o h).elim, fun l p o l' p' o' h => (nores l p o h).elim, fun l t h => (by (rw [List.getElem?_nil] at h; cases h))⟩, .cons (.scr hS (rep ns)) .nil, ?_⟩
  rw [hs]
  intro G' AD' H' x g e r
  have r2 : Rep T G' x (.bl true) := r.2
  cases r2
  rfl
theorem funD_uniq {K : PySem.W.Frag} {x qual x' qual' : Str} {params params' : Arguments} {body body' : List Stmt} {scope scope' : Scope} {dvs dvs' : List V} {kws kws' : List (Str × V)} {f : Addr} {fd fd' : FuncData} (F : FunD K x qual params body scope dvs kws f fd) (F' : FunD K x' qual' params' body' scope' dvs' kws' f fd') : fd = fd' := by
  obtain ⟨_, _, _, _, _, _, _, _, _, _, _, lk, _⟩ := F.ex
  obtain ⟨_, _, _, _, _, _, _, _, _, _, _, lk', _⟩ := F'.ex
  have e := lk.symm.trans lk'
  injection e with e
  injection e with _ _ e _
  injection e
end DL
end

set_option Elab.async false
set_option linter.all false
set_option maxRecDepth 100000
set_option maxHeartbeats 4000000
noncomputable section
namespace LW
open PySem PySem.Spec PyProof.Rows L2 DL

def b__law_pool (b : Nat) : SM :=
  sSeq (sSet 2 (eC (.int 0))) (sSeq (sIf (tVal (eOp2 ltV (eVar 1) (eBi lenG (vCons (eVar 0) (vNil))))) (sSeq (sSet 2 (eOp2 ixSeq (eVar 0) (eVar 1))) (sNil)) (sNil)) (sSeq (sRet (eLst (vCons (eBi max2G (vCons (eC (.int 0)) (vCons (eOp2 subV (eBi absG (vCons (eVar 2) (vNil))) (eOp2 powV (eC (.int 10)) (eC (.int 18)))) (vNil)))) (vCons (eOp2 addV (eOp2 modV (eBi intG (vCons (eVar 2) (vNil))) (eC (.int 2305843009213693951))) (eOp2 mulV (eC (.int 7368787)) (eOp2 addV (eVar 1) (eC (.int 1))))) (vCons (eC (.int 0)) (vNil)))))) (sNil)))
def m__law_pool : List Val → M Val := runF 0 3 b__law_pool
def b__law_draw (b : Nat) : SM :=
  sSeq (sIf (tVal (eOp2 gtV (eOp2 ixSeq (eVar 0) (eC (.int 0))) (eC (.int 0)))) (sSeq (sSet 2 (eOp2 modV (eBi intG (vCons (eOp2 ixSeq (eVar 0) (eC (.int 0))) (vNil))) (eVar 1))) (sSeq (sStore setLst (eVar 0) (eC (.int 0)) (eOp2 fdivV (eOp2 ixSeq (eVar 0) (eC (.int 0))) (eVar 1))) (sSeq (sRet (eVar 2)) (sNil)))) (sNil)) (sSeq (sStore setLst (eVar 0) (eC (.int 2)) (eOp2 addV (eOp2 ixSeq (eVar 0) (eC (.int 2))) (eC (.int 1)))) (sSeq (sSet 3 (eOp2 modV (eBi intG (vCons (eOp2 powV (eOp2 addV (eOp2 ixSeq (eVar 0) (eC (.int 1))) (eOp2 mulV (eC (.int 15485863)) (eOp2 ixSeq (eVar 0) (eC (.int 2))))) (eC (.int 3))) (vNil))) (eC (.int 162259276829213363391578010288127)))) (sSeq (sSet 3 (eOp2 modV (eBi intG (vCons (eOp2 powV (eOp2 addV (eVar 3) (eOp2 mulV (eC (.int 32452843)) (eOp2 ixSeq (eVar 0) (eC (.int 2))))) (eC (.int 3))) (vNil))) (eC (.int 170141183460469231731687303715884105727)))) (sSeq (sRet (eOp2 modV (eBi intG (vCons (eOp2 fdivV (eVar 3) (eC (.int 1048576))) (vNil))) (eVar 1))) (sNil)))))
def m__law_draw : List Val → M Val := runF 0 4 b__law_draw
def b__law_worth (c__law_worth : List Val → M Val) (b : Nat) : SM :=
  sSeq (sSet 3 (eIf (tVal (eOp2 gtV (eVar 2) (eC (.int 0)))) (eCall m__law_draw (rCons (eVar 0) (rCons (eC (.int 13)) (rNil)))) (eCall m__law_draw (rCons (eVar 0) (rCons (eC (.int 3)) (rNil)))))) (sSeq (sIf (tOr (tVal (eOp2 eqV (eVar 3) (eC (.int 0)))) (tAnd (tVal (eOp2 eqV (eVar 3) (eC (.int 1)))) (tVal (eOp2 eqV (eVar 1) (eLst (vNil)))))) (sSeq (sRet (eTup (vCons (eC (.str "n")) (vCons (eOp2 ixSeq (eLst (vCons (eOp2 subV (eCall m__law_draw (rCons (eVar 0) (rCons (eC (.int 9)) (rNil)))) (eC (.int 4))) (vCons (eOp2 subV (eCall m__law_draw (rCons (eVar 0) (rCons (eC (.int 2001)) (rNil)))) (eC (.int 1000))) (vNil)))) (eBi intG (vCons (eOp2 eqV (eCall m__law_draw (rCons (eVar 0) (rCons (eC (.int 6)) (rNil)))) (eC (.int 0))) (vNil)))) (vNil))))) (sNil)) (sNil)) (sSeq (sIf (tVal (eOp2 eqV (eVar 3) (eC (.int 1)))) (sSeq (sRet (eTup (vCons (eC (.str "c")) (vCons (eOp2 ixSeq (eVar 1) (eCall m__law_draw (rCons (eVar 0) (rCons (eBi lenG (vCons (eVar 1) (vNil))) (rNil))))) (vNil))))) (sNil)) (sNil)) (sSeq (sIf (tVal (eOp2 eqV (eVar 3) (eC (.int 2)))) (sSeq (sRet (eTup (vCons (eC (.str "g")) (vNil)))) (sNil)) (sNil)) (sSeq (sIf (tVal (eOp2 eqV (eVar 3) (eC (.int 3)))) (sSeq (sRet (eTup (vCons (eC (.str "~")) (vCons (eCall c__law_worth (rCons (eVar 0) (rCons (eVar 1) (rCons (eOp2 subV (eVar 2) (eC (.int 1))) (rNil))))) (vNil))))) (sNil)) (sNil)) (sSeq (sIf (tVal (eOp2 (oAlt (inSeq false) (inStr false)) (eVar 3) (eTup (vCons (eC (.int 4)) (vCons (eC (.int 5)) (vNil)))))) (sSeq (sSet 4 (eOp2 addV (eC (.int 1)) (eCall m__law_draw (rCons (eVar 0) (rCons (eOp2 ixSeq (eLst (vCons (eC (.int 6)) (vCons (eC (.int 1000)) (vNil)))) (eBi intG (vCons (eOp2 eqV (eCall m__law_draw (rCons (eVar 0) (rCons (eC (.int 6)) (rNil)))) (eC (.int 0))) (vNil)))) (rNil)))))) (sSeq (sRet (eTup (vCons (eOp2 ixSeq (eLst (vCons (eC (.str "//")) (vCons (eC (.str "mod")) (vNil)))) (eOp2 subV (eVar 3) (eC (.int 4)))) (vCons (eCall c__law_worth (rCons (eVar 0) (rCons (eVar 1) (rCons (eOp2 subV (eVar 2) (eC (.int 1))) (rNil))))) (vCons (eVar 4) (vNil)))))) (sNil))) (sNil)) (sSeq (sSet 5 (eOp2 ixSeq (eLst (vCons (eC (.str "+")) (vCons (eC (.str "-")) (vCons (eC (.str "*")) (vCons (eC (.str "&")) (vCons (eC (.str "|")) (vCons (eC (.str "=")) (vCons (eC (.str "<")) (vNil))))))))) (eOp2 subV (eVar 3) (eC (.int 6))))) (sSeq (sRet (eTup (vCons (eVar 5) (vCons (eCall c__law_worth (rCons (eVar 0) (rCons (eVar 1) (rCons (eOp2 subV (eVar 2) (eC (.int 1))) (rNil))))) (vCons (eCall c__law_worth (rCons (eVar 0) (rCons (eVar 1) (rCons (eOp2 subV (eVar 2) (eC (.int 1))) (rNil))))) (vNil)))))) (sNil))))))))
def m__law_worth : Nat → List Val → M Val
  | 0 => fun _ => bad
  | n + 1 => runF 0 6 (b__law_worth (m__law_worth n))
def b_show_value (c_show_value : List Val → M Val) (b : Nat) : SM :=
  sSeq (sIf (tVal (eOp2 eqV (eAt (fldV ["Value", "Step"] "sign") (eVar 0)) (eC (.str "cell")))) (sSeq (sRet (eAt (fldV ["Value"] "first") (eVar 0))) (sNil)) (sNil)) (sSeq (sIf (tVal (eOp2 eqV (eAt (fldV ["Value", "Step"] "sign") (eVar 0)) (eC (.str "passed")))) (sSeq (sRet (eC (.str "?"))) (sNil)) (sNil)) (sSeq (sIf (tVal (eOp2 eqV (eAt (fldV ["Value", "Step"] "sign") (eVar 0)) (eC (.str "number")))) (sSeq (sRet (eBi strG (vCons (eAt (fldV ["Value"] "first") (eVar 0)) (vNil)))) (sNil)) (sNil)) (sSeq (sIf (tVal (eOp2 eqV (eAt (fldV ["Value", "Step"] "sign") (eVar 0)) (eC (.str "~")))) (sSeq (sRet (eOp2 addV (eC (.str "~")) (eCall c_show_value (rCons (eAt (fldV ["Value"] "first") (eVar 0)) (rNil))))) (sNil)) (sNil)) (sSeq (sRet (eFstr [eC (.str "("), eFmt (eCall c_show_value (rCons (eAt (fldV ["Value"] "first") (eVar 0)) (rNil))), eC (.str " "), eFmt (eAt (fldV ["Value", "Step"] "sign") (eVar 0)), eC (.str " "), eFmt (eCall c_show_value (rCons (eAt (fldV ["Value"] "second") (eVar 0)) (rNil))), eC (.str ")")])) (sNil)))))
def m_show_value : Nat → List Val → M Val
  | 0 => fun _ => bad
  | n + 1 => runF 0 1 (b_show_value (m_show_value n))
def b_Value___init__ (b : Nat) : SM :=
  sSeq (sPut ["Value"] "sign" (eVar 0) (eVar 1)) (sSeq (sPut ["Value"] "first" (eVar 0) (eVar 2)) (sSeq (sPut ["Value"] "second" (eVar 0) (eVar 3)) (sNil)))
def m_Value___init__ : List Val → M Val := runF 0 4 b_Value___init__
def b_number (b : Nat) : SM :=
  sSeq (sRet (eMake "Value" m_Value___init__ (rCons (eC (.str "number")) (rCons (eVar 0) (rCons (eC .non) (rNil)))))) (sNil)
def m_number : List Val → M Val := runF 0 1 b_number
def b_is_name (b : Nat) : SM :=
  sSeq (sRet (eAnd (eChain leV leV (eC (.int 1)) (eBi lenG (vCons (eVar 0) (vNil))) (eC (.int 8))) (eBi allG (vCons (eLc [1] (itSeq (eVar 0)) (gVar 1) (tYesM) (eOp2 (oAlt (inSeq false) (inStr false)) (eVar 1) (eC (.str "abcdefghijklmnopqrstuvwxyz")))) (vNil))))) (sNil)
def m_is_name : List Val → M Val := runF 0 2 b_is_name
def b_check_name (b : Nat) : SM :=
  sSeq (sIf (tNot (tVal (eCall m_is_name (rCons (eVar 0) (rNil))))) (sSeq (sRaise "InvalidName" "value" (eVar 0)) (sNil)) (sNil)) (sNil)
def m_check_name : List Val → M Val := runF 0 1 b_check_name
def b_cell (b : Nat) : SM :=
  sSeq (sExpr (eCall m_check_name (rCons (eVar 0) (rNil)))) (sSeq (sRet (eMake "Value" m_Value___init__ (rCons (eC (.str "cell")) (rCons (eVar 0) (rCons (eC .non) (rNil)))))) (sNil))
def m_cell : List Val → M Val := runF 0 1 b_cell
def b_passed (b : Nat) : SM :=
  sSeq (sRet (eMake "Value" m_Value___init__ (rCons (eC (.str "passed")) (rCons (eC .non) (rCons (eC .non) (rNil)))))) (sNil)
def m_passed : List Val → M Val := runF 0 0 b_passed
def b_Value___invert__ (b : Nat) : SM :=
  sSeq (sRet (eMake "Value" m_Value___init__ (rCons (eC (.str "~")) (rCons (eVar 0) (rCons (eC .non) (rNil)))))) (sNil)
def m_Value___invert__ : List Val → M Val := runF 0 1 b_Value___invert__
def b_check_divisor (b : Nat) : SM :=
  sSeq (sIf (tVal (eOp2 ltV (eVar 0) (eC (.int 1)))) (sSeq (sRaise "InvalidDivisor" "value" (eVar 0)) (sNil)) (sNil)) (sNil)
def m_check_divisor : List Val → M Val := runF 0 1 b_check_divisor
def b_Value___floordiv__ (b : Nat) : SM :=
  sSeq (sExpr (eCall m_check_divisor (rCons (eVar 1) (rNil)))) (sSeq (sRet (eMake "Value" m_Value___init__ (rCons (eC (.str "//")) (rCons (eVar 0) (rCons (eCall m_number (rCons (eVar 1) (rNil))) (rNil)))))) (sNil))
def m_Value___floordiv__ : List Val → M Val := runF 0 2 b_Value___floordiv__
def b_Value_rest (b : Nat) : SM :=
  sSeq (sExpr (eCall m_check_divisor (rCons (eVar 1) (rNil)))) (sSeq (sRet (eMake "Value" m_Value___init__ (rCons (eC (.str "mod")) (rCons (eVar 0) (rCons (eCall m_number (rCons (eVar 1) (rNil))) (rNil)))))) (sNil))
def m_Value_rest : List Val → M Val := runF 0 2 b_Value_rest
def b_value_of (b : Nat) : SM :=
  sSeq (sRet (eIf (tVal (eIsi [("Value", true), ("Step", false)] [("NoneType", false), ("bool", false), ("int", false), ("str", false), ("list", false), ("tuple", false)] (eVar 0))) (eVar 0) (eCall m_number (rCons (eVar 0) (rNil))))) (sNil)
def m_value_of : List Val → M Val := runF 0 1 b_value_of
def b_Value_same (b : Nat) : SM :=
  sSeq (sRet (eMake "Value" m_Value___init__ (rCons (eC (.str "=")) (rCons (eVar 0) (rCons (eCall m_value_of (rCons (eVar 1) (rNil))) (rNil)))))) (sNil)
def m_Value_same : List Val → M Val := runF 0 2 b_Value_same
def b_Value_less (b : Nat) : SM :=
  sSeq (sRet (eMake "Value" m_Value___init__ (rCons (eC (.str "<")) (rCons (eVar 0) (rCons (eCall m_value_of (rCons (eVar 1) (rNil))) (rNil)))))) (sNil)
def m_Value_less : List Val → M Val := runF 0 2 b_Value_less
def b_Value___add__ (b : Nat) : SM :=
  sSeq (sRet (eMake "Value" m_Value___init__ (rCons (eC (.str "+")) (rCons (eVar 0) (rCons (eCall m_value_of (rCons (eVar 1) (rNil))) (rNil)))))) (sNil)
def m_Value___add__ : List Val → M Val := runF 0 2 b_Value___add__
def b_Value___sub__ (b : Nat) : SM :=
  sSeq (sRet (eMake "Value" m_Value___init__ (rCons (eC (.str "-")) (rCons (eVar 0) (rCons (eCall m_value_of (rCons (eVar 1) (rNil))) (rNil)))))) (sNil)
def m_Value___sub__ : List Val → M Val := runF 0 2 b_Value___sub__
def b_Value___mul__ (b : Nat) : SM :=
  sSeq (sRet (eMake "Value" m_Value___init__ (rCons (eC (.str "*")) (rCons (eVar 0) (rCons (eCall m_value_of (rCons (eVar 1) (rNil))) (rNil)))))) (sNil)
def m_Value___mul__ : List Val → M Val := runF 0 2 b_Value___mul__
def b_Value___and__ (b : Nat) : SM :=
  sSeq (sRet (eMake "Value" m_Value___init__ (rCons (eC (.str "&")) (rCons (eVar 0) (rCons (eCall m_value_of (rCons (eVar 1) (rNil))) (rNil)))))) (sNil)
def m_Value___and__ : List Val → M Val := runF 0 2 b_Value___and__
def b_Value___or__ (b : Nat) : SM :=
  sSeq (sRet (eMake "Value" m_Value___init__ (rCons (eC (.str "|")) (rCons (eVar 0) (rCons (eCall m_value_of (rCons (eVar 1) (rNil))) (rNil)))))) (sNil)
def m_Value___or__ : List Val → M Val := runF 0 2 b_Value___or__
def b__law_part (c__law_value : List Val → M Val) (b : Nat) : SM :=
  sSeq (sRet (eIf (tAnd (tVal (eOp2 eqV (eOp2 ixSeq (eVar 0) (eC (.int 0))) (eC (.str "n")))) (tVal (eOp2 eqV (eVar 1) (eC (.int 1))))) (eOp2 ixSeq (eVar 0) (eC (.int 1))) (eCall c__law_value (rCons (eVar 0) (rCons (eVar 1) (rNil)))))) (sNil)
def b__law_value (c__law_part : List Val → M Val) (c__law_value : List Val → M Val) (b : Nat) : SM :=
  sSeq (sIf (tVal (eOp2 (oAlt (inSeq false) (inStr false)) (eOp2 ixSeq (eVar 0) (eC (.int 0))) (eTup (vCons (eC (.str "n")) (vCons (eC (.str "c")) (vNil)))))) (sSeq (sRet (eIf (tVal (eOp2 eqV (eOp2 ixSeq (eVar 0) (eC (.int 0))) (eC (.str "n")))) (eCall m_number (rCons (eOp2 ixSeq (eVar 0) (eC (.int 1))) (rNil))) (eCall m_cell (rCons (eOp2 ixSeq (eVar 0) (eC (.int 1))) (rNil))))) (sNil)) (sNil)) (sSeq (sIf (tVal (eOp2 eqV (eOp2 ixSeq (eVar 0) (eC (.int 0))) (eC (.str "g")))) (sSeq (sRet (eCall m_passed rNil)) (sNil)) (sNil)) (sSeq (sSet 2 (eCall c__law_value (rCons (eOp2 ixSeq (eVar 0) (eC (.int 1))) (rCons (eVar 1) (rNil))))) (sSeq (sIf (tVal (eOp2 eqV (eOp2 ixSeq (eVar 0) (eC (.int 0))) (eC (.str "~")))) (sSeq (sRet (eInv "Value" m_Value___invert__ (eVar 2))) (sNil)) (sNil)) (sSeq (sIf (tVal (eOp2 (oAlt (inSeq false) (inStr false)) (eOp2 ixSeq (eVar 0) (eC (.int 0))) (eTup (vCons (eC (.str "//")) (vCons (eC (.str "mod")) (vNil)))))) (sSeq (sRet (eIf (tVal (eOp2 eqV (eOp2 ixSeq (eVar 0) (eC (.int 0))) (eC (.str "//")))) (eOp2 (ownI "Value" m_Value___floordiv__) (eVar 2) (eOp2 ixSeq (eVar 0) (eC (.int 2)))) (eMeth "rest" [("Value", m_Value_rest)] (eVar 2) (rCons (eOp2 ixSeq (eVar 0) (eC (.int 2))) (rNil))))) (sNil)) (sNil)) (sSeq (sSet 3 (eCall c__law_part (rCons (eOp2 ixSeq (eVar 0) (eC (.int 2))) (rCons (eVar 1) (rNil))))) (sSeq (sIf (tVal (eOp2 (oAlt (inSeq false) (inStr false)) (eOp2 ixSeq (eVar 0) (eC (.int 0))) (eTup (vCons (eC (.str "=")) (vCons (eC (.str "<")) (vNil)))))) (sSeq (sRet (eIf (tVal (eOp2 eqV (eOp2 ixSeq (eVar 0) (eC (.int 0))) (eC (.str "=")))) (eMeth "same" [("Value", m_Value_same)] (eVar 2) (rCons (eVar 3) (rNil))) (eMeth "less" [("Value", m_Value_less)] (eVar 2) (rCons (eVar 3) (rNil))))) (sNil)) (sNil)) (sSeq (sIf (tVal (eOp2 neV (eOp2 ixSeq (eOp2 ixSeq (eVar 0) (eC (.int 2))) (eC (.int 0))) (eC (.str "n")))) (sSeq (sSet 2 (eCall c__law_part (rCons (eOp2 ixSeq (eVar 0) (eC (.int 1))) (rCons (eVar 1) (rNil))))) (sNil)) (sNil)) (sSeq (sIf (tVal (eOp2 (oAlt (inSeq false) (inStr false)) (eOp2 ixSeq (eVar 0) (eC (.int 0))) (eTup (vCons (eC (.str "+")) (vCons (eC (.str "-")) (vCons (eC (.str "*")) (vNil))))))) (sSeq (sRet (eIf (tVal (eOp2 eqV (eOp2 ixSeq (eVar 0) (eC (.int 0))) (eC (.str "+")))) (eOp2 (ownS "Value" m_Value___add__) (eVar 2) (eVar 3)) (eIf (tVal (eOp2 eqV (eOp2 ixSeq (eVar 0) (eC (.int 0))) (eC (.str "-")))) (eOp2 (ownS "Value" m_Value___sub__) (eVar 2) (eVar 3)) (eOp2 (ownS "Value" m_Value___mul__) (eVar 2) (eVar 3))))) (sNil)) (sNil)) (sSeq (sRet (eIf (tVal (eOp2 eqV (eOp2 ixSeq (eVar 0) (eC (.int 0))) (eC (.str "&")))) (eOp2 (ownS "Value" m_Value___and__) (eVar 2) (eVar 3)) (eOp2 (ownS "Value" m_Value___or__) (eVar 2) (eVar 3)))) (sNil))))))))))
mutual
def m__law_part : Nat → List Val → M Val
  | 0 => fun _ => bad
  | n + 1 => runF 0 2 (b__law_part (m__law_value n))
def m__law_value : Nat → List Val → M Val
  | 0 => fun _ => bad
  | n + 1 => runF 0 4 (b__law_value (m__law_part n) (m__law_value n))
end
def b__law_odd (b : Nat) : SM :=
  sSeq (sOwn b 2 0 (eLst (vCons (eC (.str "")) (vCons (eC (.str "-")) (vCons (eC (.str "--1")) (vCons (eC (.str "-0")) (vCons (eC (.str "+1")) (vCons (eC (.str "007")) (vCons (eC (.str "abcdefgh")) (vCons (eC (.str "abcdefghi")) (vCons (eC (.str "a b")) (vCons (eC (.str "A")) (vCons (eC (.str "a1")) (vCons (eC (.str "??")) (vCons (eC (.str "? ")) (vCons (eC (.str "()")) (vNil))))))))))))))))) (sSeq (sOwn b 2 0 (eOp2 addV (eVar 2) (eLst (vCons (eC (.str "(a)")) (vCons (eC (.str "(a + )")) (vNil)))))) (sSeq (sOwn b 2 0 (eOp2 addV (eVar 2) (eLst (vCons (eOp2 mulV (eC (.str "9")) (eC (.int 20))) (vCons (eOp2 mulV (eC (.str "9")) (eC (.int 21))) (vCons (eOp2 addV (eC (.str "-")) (eOp2 mulV (eC (.str "9")) (eC (.int 20)))) (vCons (eOp2 addV (eC (.str "-")) (eOp2 mulV (eC (.str "9")) (eC (.int 21)))) (vCons (eC (.str "(a // 0)")) (vNil))))))))) (sSeq (sOwn b 2 0 (eOp2 addV (eVar 2) (eLst (vCons (eC (.str "(a mod 0)")) (vCons (eC (.str "(a // -1)")) (vCons (eC (.str "(a mod b)")) (vNil))))))) (sSeq (sOwn b 2 0 (eOp2 addV (eVar 2) (eLst (vCons (eC (.str "(a // 1)")) (vCons (eC (.str "(a mod 1)")) (vCons (eC (.str "(a // ?)")) (vCons (eC (.str "(a mod  2)")) (vCons (eC (.str "(a == b)")) (vCons (eC (.str "(a ** 2)")) (vCons (eC (.str "(a <= b)")) (vNil))))))))))) (sSeq (sOwn b 2 0 (eOp2 addV (eVar 2) (eLst (vCons (eC (.str "(a  + b)")) (vCons (eC (.str "(a + b")) (vCons (eC (.str "a + b")) (vCons (eC (.str "((a + b))")) (vCons (eC (.str "(a+b)")) (vCons (eC (.str "(mod mod 2)")) (vNil)))))))))) (sSeq (sOwn b 2 0 (eOp2 addV (eVar 2) (eLst (vCons (eC (.str "(mod + mod)")) (vCons (eC (.str "~~~?")) (vCons (eC (.str "~(~a = ~0)")) (vNil))))))) (sSeq (sOwn b 2 0 (eOp2 addV (eVar 2) (eLst (vCons (eOp2 addV (eOp2 addV (eC (.str "(a + ")) (eOp2 mulV (eC (.str "9")) (eC (.int 20)))) (eC (.str ")"))) (vCons (eOp2 addV (eOp2 addV (eC (.str "(a + ")) (eOp2 mulV (eC (.str "9")) (eC (.int 21)))) (eC (.str ")"))) (vCons (eOp2 addV (eOp2 addV (eC (.str "(")) (eOp2 mulV (eC (.str "9")) (eC (.int 21)))) (eC (.str " < a)"))) (vNil))))))) (sSeq (sOwn b 2 0 (eOp2 addV (eVar 2) (eLst (vCons (eOp2 addV (eOp2 addV (eC (.str "(a mod ")) (eOp2 mulV (eC (.str "9")) (eC (.int 20)))) (eC (.str ")"))) (vCons (eOp2 addV (eOp2 addV (eC (.str "(a mod ")) (eOp2 mulV (eC (.str "9")) (eC (.int 21)))) (eC (.str ")"))) (vCons (eC (.str "(a + -0)")) (vCons (eC (.str "(a + 007)")) (vNil)))))))) (sSeq (sOwn b 2 0 (eOp2 addV (eVar 2) (eLst (vCons (eC (.str "(-0 < a)")) (vCons (eC (.str "(a mod 02)")) (vNil)))))) (sSeq (sOwn b 2 0 (eOp2 addV (eVar 2) (eLst (vCons (eOp2 addV (eOp2 addV (eOp2 mulV (eC (.str "(")) (eC (.int 330))) (eC (.str "a"))) (eOp2 mulV (eC (.str " + 1)")) (eC (.int 330)))) (vCons (eOp2 addV (eOp2 mulV (eC (.str "~")) (eC (.int 1200))) (eC (.str "a"))) (vNil)))))) (sSeq (sSet 3 (eOp2 addV (eC (.int 1)) (eCall m__law_draw (rCons (eVar 0) (rCons (eC (.int 11)) (rNil)))))) (sSeq (sFor (itSeq (eTup (vCons (eC (.int 12)) (vCons (eC (.int 13)) (vNil))))) (gVar 4) (sSeq (sExpr (eBm lstR appendG (eVar 2) (vCons (eOp2 addV (eOp2 addV (eOp2 addV (eOp2 mulV (eC (.str "~")) (eVar 3)) (eOp2 mulV (eC (.str "(")) (eOp2 subV (eVar 4) (eVar 3)))) (eC (.str "a"))) (eOp2 mulV (eC (.str " + 1)")) (eOp2 subV (eVar 4) (eVar 3)))) (vNil)))) (sNil))) (sSeq (sOwn b 2 0 (eOp2 addV (eVar 2) (eLst (vCons (eOp2 addV (eVar 1) (eC (.str " "))) (vCons (eOp2 addV (eC (.str " ")) (eVar 1)) (vCons (eOp2 addV (eVar 1) (eVar 1)) (vNil))))))) (sSeq (sOwn b 2 0 (eOp2 addV (eVar 2) (eLst (vCons (eOp2 addV (eOp2 addV (eC (.str "(")) (eVar 1)) (eC (.str ")"))) (vCons (eOp2 addV (eC (.str "~")) (eVar 1)) (vCons (eOp2 addV (eC (.str "-")) (eVar 1)) (vNil))))))) (sSeq (sRet (eOp2 ixSeq (eVar 2) (eCall m__law_draw (rCons (eVar 0) (rCons (eBi lenG (vCons (eVar 2) (vNil))) (rNil)))))) (sNil))))))))))))))))
def m__law_odd : List Val → M Val := runF 1 5 b__law_odd
def b__law_bent (b : Nat) : SM :=
  sSeq (sPar b [(2, none), (3, none)] (rCons (eCall m__law_draw (rCons (eVar 0) (rCons (eOp2 addV (eBi lenG (vCons (eVar 1) (vNil))) (eC (.int 1))) (rNil)))) (rCons (eCall m__law_draw (rCons (eVar 0) (rCons (eC (.int 7)) (rNil)))) (rNil)))) (sSeq (sSet 4 (eC (.str "abcdefghijklmnopqrstuvwxyzABCDEFGHIJKLMNOPQRSTUVWXYZ0123456789 !#*+,-./:;<=>?()[]_{|}$&'@^~`"))) (sSeq (sSet 5 (eOp2 ixSeq (eLst (vCons (eC (.str "0123456789 -/~()+&|*<=?mod")) (vCons (eOp2 addV (eOp2 addV (eVar 4) (eC (.str "\\"))) (eC (.str "\""))) (vNil)))) (eCall m__law_draw (rCons (eVar 0) (rCons (eC (.int 2)) (rNil)))))) (sSeq (sSet 6 (eOp2 ixSeq (eVar 5) (eCall m__law_draw (rCons (eVar 0) (rCons (eBi lenG (vCons (eVar 5) (vNil))) (rNil)))))) (sSeq (sIf (tVal (eOp2 eqV (eVar 3) (eC (.int 0)))) (sSeq (sRet (eOp2 addV (eOp2 addV (eSlice (eVar 1) none (some (eVar 2))) (eVar 6)) (eSlice (eVar 1) (some (eVar 2)) none))) (sNil)) (sNil)) (sSeq (sIf (tVal (eOp2 eqV (eVar 3) (eC (.int 1)))) (sSeq (sRet (eOp2 addV (eSlice (eVar 1) none (some (eVar 2))) (eSlice (eVar 1) (some (eOp2 addV (eVar 2) (eC (.int 1)))) none))) (sNil)) (sNil)) (sSeq (sIf (tVal (eOp2 eqV (eVar 3) (eC (.int 2)))) (sSeq (sRet (eOp2 addV (eOp2 addV (eSlice (eVar 1) none (some (eVar 2))) (eVar 6)) (eSlice (eVar 1) (some (eOp2 addV (eVar 2) (eC (.int 1)))) none))) (sNil)) (sNil)) (sSeq (sIf (tVal (eOp2 eqV (eVar 3) (eC (.int 3)))) (sSeq (sRet (eCall m__law_odd (rCons (eVar 0) (rCons (eVar 1) (rNil))))) (sNil)) (sNil)) (sSeq (sIf (tVal (eOp2 eqV (eVar 3) (eC (.int 4)))) (sSeq (sOwn b 7 0 (eBm strR splitG (eVar 1) (vCons (eC (.str " ")) (vNil)))) (sSeq (sPar b [(8, none), (9, none)] (rCons (eCall m__law_draw (rCons (eVar 0) (rCons (eBi lenG (vCons (eVar 7) (vNil))) (rNil)))) (rCons (eCall m__law_draw (rCons (eVar 0) (rCons (eBi lenG (vCons (eVar 7) (vNil))) (rNil)))) (rNil)))) (sSeq (sSet 10 (eOp2 ixSeq (eVar 7) (eVar 8))) (sSeq (sStore setLst (eVar 7) (eVar 8) (eOp2 ixSeq (eVar 7) (eVar 9))) (sSeq (sStore setLst (eVar 7) (eVar 9) (eVar 10)) (sSeq (sRet (eBm strR joinG (eC (.str " ")) (vCons (eMove (eVar 7)) (vNil)))) (sNil))))))) (sNil)) (sSeq (sRet (eVar 1)) (sNil))))))))))
def m__law_bent : List Val → M Val := runF 1 11 b__law_bent
def b_is_number (b : Nat) : SM :=
  sSeq (sSet 2 (eIf (tVal (eOp2 eqV (eSlice (eVar 0) none (some (eC (.int 1)))) (eC (.str "-")))) (eSlice (eVar 0) (some (eC (.int 1))) none) (eVar 0))) (sSeq (sIf (tOr (tNot (tVal (eChain leV leV (eC (.int 1)) (eBi lenG (vCons (eVar 2) (vNil))) (eVar 1)))) (tNot (tVal (eBi allG (vCons (eLc [3] (itSeq (eVar 2)) (gVar 3) (tYesM) (eOp2 (oAlt (inSeq false) (inStr false)) (eVar 3) (eC (.str "0123456789")))) (vNil)))))) (sSeq (sRet (eC (.bl false))) (sNil)) (sNil)) (sSeq (sRet (eOr (eOp2 neV (eOp2 ixSeq (eVar 2) (eC (.int 0))) (eC (.str "0"))) (eOp2 eqV (eVar 0) (eC (.str "0"))))) (sNil)))
def m_is_number : List Val → M Val := runF 0 4 b_is_number
def b_split_pair (b : Nat) : SM :=
  sSeq (sSet 1 (eBm strR splitG (eSlice (eVar 0) (some (eC (.int 1))) (some (eNeg (eC (.int 1))))) (vCons (eC (.str " ")) (vNil)))) (sSeq (sSet 2 (eC (.int 0))) (sSeq (sFor (itEnum (vCons (eVar 1) (vNil))) (gTupD [gVar 3, gVar 4]) (sSeq (sIf (tAnd (tVal (eOp2 eqV (eVar 2) (eC (.int 0)))) (tVal (eChain ltV ltV (eC (.int 0)) (eVar 3) (eOp2 subV (eBi lenG (vCons (eVar 1) (vNil))) (eC (.int 1)))))) (sSeq (sRet (eTup (vCons (eBm strR joinG (eC (.str " ")) (vCons (eSlice (eVar 1) none (some (eVar 3))) (vNil))) (vCons (eVar 4) (vCons (eBm strR joinG (eC (.str " ")) (vCons (eSlice (eVar 1) (some (eOp2 addV (eVar 3) (eC (.int 1)))) none) (vNil))) (vNil)))))) (sNil)) (sNil)) (sSeq (sSet 2 (eOp2 subV (eOp2 addV (eVar 2) (eBm strR countG (eVar 4) (vCons (eC (.str "(")) (vNil)))) (eBm strR countG (eVar 4) (vCons (eC (.str ")")) (vNil))))) (sNil)))) (sSeq (sRet (eC .non)) (sNil))))
def m_split_pair : List Val → M Val := runF 0 5 b_split_pair
def b_value_in (c_value_in : List Val → M Val) (b : Nat) : SM :=
  sSeq (sIf (tVal (eOp2 eqV (eVar 0) (eC (.str "?")))) (sSeq (sRet (eCall m_passed rNil)) (sNil)) (sNil)) (sSeq (sIf (tVal (eCall m_is_name (rCons (eVar 0) (rNil)))) (sSeq (sRet (eCall m_cell (rCons (eVar 0) (rNil)))) (sNil)) (sNil)) (sSeq (sIf (tVal (eCall m_is_number (rCons (eVar 0) (rCons (eC (.int (20))) (rNil))))) (sSeq (sRet (eCall m_number (rCons (eBi intG (vCons (eVar 0) (vNil))) (rNil)))) (sNil)) (sNil)) (sSeq (sIf (tVal (eOp2 eqV (eSlice (eVar 0) none (some (eC (.int 1)))) (eC (.str "~")))) (sSeq (sSet 1 (eCall c_value_in (rCons (eSlice (eVar 0) (some (eC (.int 1))) none) (rNil)))) (sSeq (sRet (eIf (tVal (eOp2 isNV (eVar 1) (eC .non))) (eC .non) (eInv "Value" m_Value___invert__ (eVar 1)))) (sNil))) (sNil)) (sSeq (sIf (tOr (tVal (eOp2 neV (eSlice (eVar 0) none (some (eC (.int 1)))) (eC (.str "(")))) (tVal (eOp2 neV (eSlice (eVar 0) (some (eNeg (eC (.int 1)))) none) (eC (.str ")"))))) (sSeq (sRet (eC .non)) (sNil)) (sNil)) (sSeq (sSet 2 (eCall m_split_pair (rCons (eVar 0) (rNil)))) (sSeq (sIf (tOr (tVal (eOp2 isNV (eVar 2) (eC .non))) (tVal (eOp2 (oAlt (inSeq true) (inStr true)) (eOp2 ixSeq (eVar 2) (eC (.int 1))) (eC (.tup [.str "+", .str "-", .str "*", .str "//", .str "mod", .str "&", .str "|", .str "=", .str "<"]))))) (sSeq (sRet (eC .non)) (sNil)) (sNil)) (sSeq (sPar b [(3, none), (4, none)] (rCons (eCall c_value_in (rCons (eOp2 ixSeq (eVar 2) (eC (.int 0))) (rNil))) (rCons (eCall c_value_in (rCons (eOp2 ixSeq (eVar 2) (eC (.int 2))) (rNil))) (rNil)))) (sSeq (sIf (tOr (tVal (eOp2 isNV (eVar 3) (eC .non))) (tVal (eOp2 isNV (eVar 4) (eC .non)))) (sSeq (sRet (eC .non)) (sNil)) (sNil)) (sSeq (sIf (tAnd (tVal (eOp2 (oAlt (inSeq false) (inStr false)) (eOp2 ixSeq (eVar 2) (eC (.int 1))) (eTup (vCons (eC (.str "//")) (vCons (eC (.str "mod")) (vNil)))))) (tOr (tVal (eOp2 neV (eAt (fldV ["Value", "Step"] "sign") (eVar 4)) (eC (.str "number")))) (tVal (eOp2 ltV (eAt (fldV ["Value"] "first") (eVar 4)) (eC (.int 1)))))) (sSeq (sRet (eC .non)) (sNil)) (sNil)) (sSeq (sRet (eMake "Value" m_Value___init__ (rCons (eOp2 ixSeq (eVar 2) (eC (.int 1))) (rCons (eVar 3) (rCons (eVar 4) (rNil)))))) (sNil)))))))))))
def m_value_in : Nat → List Val → M Val
  | 0 => fun _ => bad
  | n + 1 => runF 0 5 (b_value_in (m_value_in n))
def b_value_of_text (b : Nat) : SM :=
  sSeq (sIf (tVal (eOp2 gtV (eOp2 addV (eBm strR countG (eVar 0) (vCons (eC (.str "(")) (vNil))) (eBm strR countG (eVar 0) (vCons (eC (.str "~")) (vNil)))) (eC (.int (12))))) (sSeq (sRet (eC .non)) (sNil)) (sNil)) (sSeq (sSet 1 (eCall (m_value_in 60) (rCons (eVar 0) (rNil)))) (sSeq (sRet (eIf (tOr (tVal (eOp2 isNV (eVar 1) (eC .non))) (tVal (eOp2 neV (eCall (m_show_value 60) (rCons (eVar 1) (rNil))) (eVar 0)))) (eC .non) (eVar 1))) (sNil)))
def m_value_of_text : List Val → M Val := runF 0 2 b_value_of_text
def b_read_value (b : Nat) : SM :=
  sSeq (sSet 1 (eCall m_value_of_text (rCons (eVar 0) (rNil)))) (sSeq (sIf (tVal (eOp2 isNV (eVar 1) (eC .non))) (sSeq (sRaise "Unreadable" "value" (eVar 0)) (sNil)) (sNil)) (sSeq (sRet (eVar 1)) (sNil)))
def m_read_value : List Val → M Val := runF 0 2 b_read_value
def b__law_caught (b : Nat) : SM :=
  sSeq (sSet 1 (eLst (vNil))) (sSeq (sTry [("WorkError", true), ("InvalidName", true), ("UnknownName", true), ("InvalidDivisor", true), ("Unreadable", true)] 2 (sSeq (sSet 1 (eLst (vCons (eCall (m_show_value 60) (rCons (eCall m_read_value (rCons (eVar 0) (rNil))) (rNil))) (vNil)))) (sNil)) (fun d => sSeq (sSet 3 (eXis 2 d [("WorkError", false), ("InvalidName", true), ("UnknownName", false), ("InvalidDivisor", true), ("Unreadable", false)])) (sSeq (sSet 1 (eIf (tOr (tVal (eVar 3)) (tOr (tNot (tVal (eXis 2 d [("WorkError", false), ("InvalidName", false), ("UnknownName", false), ("InvalidDivisor", false), ("Unreadable", true)]))) (tVal (eOp2 neV (eXval ["WorkError", "InvalidName", "UnknownName", "InvalidDivisor", "Unreadable"] 2 d "value") (eVar 0))))) (eLst (vCons (eC (.str "odd")) (vNil))) (eLst (vNil)))) (sNil)))) (sSeq (sRet (eVar 1)) (sNil)))
def m__law_caught : List Val → M Val := runF 0 4 b__law_caught
def b__law_run (b : Nat) : SM :=
  sSeq (sSet 3 (eVar 1)) (sSeq (sWhile (tAnd (tVal (eOp2 ltV (eVar 3) (eBi lenG (vCons (eVar 0) (vNil))))) (tVal (eOp2 (oAlt (inSeq false) (inStr false)) (eOp2 ixSeq (eVar 0) (eVar 3)) (eVar 2)))) (sSeq (sSet 3 (eOp2 addV (eVar 3) (eC (.int 1)))) (sNil)) 1000000) (sSeq (sRet (eVar 3)) (sNil)))
def m__law_run : List Val → M Val := runF 0 4 b__law_run
def b__law_integer (b : Nat) : SM :=
  sSeq (sSet 1 (eIf (tVal (eOp2 eqV (eSlice (eVar 0) none (some (eC (.int 1)))) (eC (.str "-")))) (eSlice (eVar 0) (some (eC (.int 1))) none) (eVar 0))) (sSeq (sIf (tOr (tVal (eOp2 eqV (eVar 1) (eC (.str "")))) (tOr (tVal (eOp2 gtV (eBi lenG (vCons (eVar 1) (vNil))) (eC (.int 20)))) (tVal (eOp2 neV (eLc [2] (itSeq (eVar 1)) (gVar 2) (tVal (eOp2 (oAlt (inSeq true) (inStr true)) (eVar 2) (eC (.str "0123456789")))) (eVar 2)) (eLst (vNil)))))) (sSeq (sRet (eC (.bl false))) (sNil)) (sNil)) (sSeq (sRet (eOr (eOp2 neV (eOp2 ixSeq (eVar 1) (eC (.int 0))) (eC (.str "0"))) (eOp2 eqV (eVar 0) (eC (.str "0"))))) (sNil)))
def m__law_integer : List Val → M Val := runF 0 3 b__law_integer
def b__law_ends (c__law_ends : List Val → M Val) (b : Nat) : SM :=
  sSeq (sSet 2 (eSlice (eVar 0) (some (eVar 1)) (some (eOp2 addV (eVar 1) (eC (.int 1)))))) (sSeq (sIf (tVal (eOp2 eqV (eVar 2) (eC (.str "?")))) (sSeq (sRet (eOp2 addV (eVar 1) (eC (.int 1)))) (sNil)) (sNil)) (sSeq (sIf (tVal (eOp2 eqV (eVar 2) (eC (.str "~")))) (sSeq (sRet (eCall c__law_ends (rCons (eVar 0) (rCons (eOp2 addV (eVar 1) (eC (.int 1))) (rNil))))) (sNil)) (sNil)) (sSeq (sIf (tVal (eOp2 neV (eVar 2) (eC (.str "(")))) (sSeq (sSet 3 (eC (.str "abcdefghijklmnopqrstuvwxyz"))) (sSeq (sSet 4 (eCall m__law_run (rCons (eVar 0) (rCons (eVar 1) (rCons (eVar 3) (rNil)))))) (sSeq (sIf (tVal (eOp2 gtV (eVar 4) (eVar 1))) (sSeq (sRet (eIf (tVal (eOp2 ltV (eOp2 subV (eVar 4) (eVar 1)) (eC (.int 9)))) (eVar 4) (eC (.int 0)))) (sNil)) (sNil)) (sSeq (sSet 4 (eCall m__law_run (rCons (eVar 0) (rCons (eVar 1) (rCons (eC (.str "-0123456789")) (rNil)))))) (sSeq (sRet (eIf (tVal (eCall m__law_integer (rCons (eSlice (eVar 0) (some (eVar 1)) (some (eVar 4))) (rNil)))) (eVar 4) (eC (.int 0)))) (sNil)))))) (sNil)) (sSeq (sSet 4 (eCall c__law_ends (rCons (eVar 0) (rCons (eOp2 addV (eVar 1) (eC (.int 1))) (rNil))))) (sSeq (sIf (tOr (tVal (eOp2 eqV (eVar 4) (eC (.int 0)))) (tVal (eOp2 neV (eSlice (eVar 0) (some (eVar 4)) (some (eOp2 addV (eVar 4) (eC (.int 1))))) (eC (.str " "))))) (sSeq (sRet (eC (.int 0))) (sNil)) (sNil)) (sSeq (sSet 5 (eOp2 addV (eVar 4) (eC (.int 1)))) (sSeq (sWhile (tAnd (tVal (eOp2 ltV (eVar 5) (eBi lenG (vCons (eVar 0) (vNil))))) (tVal (eOp2 neV (eOp2 ixSeq (eVar 0) (eVar 5)) (eC (.str " "))))) (sSeq (sSet 5 (eOp2 addV (eVar 5) (eC (.int 1)))) (sNil)) 1000000) (sSeq (sSet 6 (eSlice (eVar 0) (some (eOp2 addV (eVar 4) (eC (.int 1)))) (some (eVar 5)))) (sSeq (sIf (tOr (tVal (eOp2 (oAlt (inSeq true) (inStr true)) (eVar 6) (eTup (vCons (eC (.str "+")) (vCons (eC (.str "-")) (vCons (eC (.str "*")) (vCons (eC (.str "//")) (vCons (eC (.str "mod")) (vCons (eC (.str "&")) (vCons (eC (.str "|")) (vCons (eC (.str "=")) (vCons (eC (.str "<")) (vNil))))))))))))) (tVal (eOp2 neV (eSlice (eVar 0) (some (eVar 5)) (some (eOp2 addV (eVar 5) (eC (.int 1))))) (eC (.str " "))))) (sSeq (sRet (eC (.int 0))) (sNil)) (sNil)) (sSeq (sSet 7 (eCall c__law_ends (rCons (eVar 0) (rCons (eOp2 addV (eVar 5) (eC (.int 1))) (rNil))))) (sSeq (sSet 8 (eSlice (eVar 0) (some (eOp2 addV (eVar 5) (eC (.int 1)))) (some (eVar 7)))) (sSeq (sIf (tOr (tVal (eOp2 eqV (eVar 7) (eC (.int 0)))) (tAnd (tVal (eOp2 (oAlt (inSeq false) (inStr false)) (eVar 6) (eTup (vCons (eC (.str "//")) (vCons (eC (.str "mod")) (vNil)))))) (tOr (tNot (tVal (eCall m__law_integer (rCons (eVar 8) (rNil))))) (tVal (eOp2 ltV (eBi intG (vCons (eVar 8) (vNil))) (eC (.int 1))))))) (sSeq (sRet (eC (.int 0))) (sNil)) (sNil)) (sSeq (sRet (eIf (tVal (eOp2 eqV (eSlice (eVar 0) (some (eVar 7)) (some (eOp2 addV (eVar 7) (eC (.int 1))))) (eC (.str ")")))) (eOp2 addV (eVar 7) (eC (.int 1))) (eC (.int 0)))) (sNil))))))))))))))
def m__law_ends : Nat → List Val → M Val
  | 0 => fun _ => bad
  | n + 1 => runF 0 9 (b__law_ends (m__law_ends n))
def b__law_is_value (b : Nat) : SM :=
  sSeq (sIf (tVal (eOp2 gtV (eOp2 addV (eBm strR countG (eVar 0) (vCons (eC (.str "~")) (vNil))) (eBm strR countG (eVar 0) (vCons (eC (.str "(")) (vNil)))) (eC (.int 12)))) (sSeq (sRet (eC (.bl false))) (sNil)) (sNil)) (sSeq (sRet (eAnd (eOp2 neV (eVar 0) (eC (.str ""))) (eOp2 eqV (eCall (m__law_ends 60) (rCons (eVar 0) (rCons (eC (.int 0)) (rNil)))) (eBi lenG (vCons (eVar 0) (vNil)))))) (sNil))
def m__law_is_value : List Val → M Val := runF 0 1 b__law_is_value
def b_show_step (c_show_steps : List Val → M Val) (b : Nat) : SM :=
  sSeq (sSet 1 (eCall (m_show_value 60) (rCons (eAt (fldV ["Step"] "value") (eVar 0)) (rNil)))) (sSeq (sIf (tVal (eOp2 eqV (eAt (fldV ["Value", "Step"] "sign") (eVar 0)) (eC (.str "put")))) (sSeq (sRet (eFstr [eC (.str "put "), eFmt (eAt (fldV ["Step"] "name") (eVar 0)), eC (.str " "), eFmt (eVar 1)])) (sNil)) (sNil)) (sSeq (sIf (tVal (eOp2 eqV (eAt (fldV ["Value", "Step"] "sign") (eVar 0)) (eC (.str "answer")))) (sSeq (sRet (eOp2 addV (eC (.str "answer ")) (eVar 1))) (sNil)) (sNil)) (sSeq (sRet (eOp2 addV (eOp2 addV (eOp2 addV (eOp2 addV (eOp2 addV (eOp2 addV (eC (.str "when ")) (eVar 1)) (eC (.str " {"))) (eCall c_show_steps (rCons (eAt (fldV ["Step"] "steps") (eVar 0)) (rNil)))) (eC (.str "} else {"))) (eCall c_show_steps (rCons (eAt (fldV ["Step"] "others") (eVar 0)) (rNil)))) (eC (.str "}")))) (sNil))))
def b_show_steps (c_show_step : List Val → M Val) (b : Nat) : SM :=
  sSeq (sRet (eBm strR joinG (eC (.str "; ")) (vCons (eLc [1] (itSeq (eVar 0)) (gVar 1) (tYesM) (eCall c_show_step (rCons (eVar 1) (rNil)))) (vNil)))) (sNil)
mutual
def m_show_step : Nat → List Val → M Val
  | 0 => fun _ => bad
  | n + 1 => runF 0 2 (b_show_step (m_show_steps n))
def m_show_steps : Nat → List Val → M Val
  | 0 => fun _ => bad
  | n + 1 => runF 0 2 (b_show_steps (m_show_step n))
end
def b_Step___init__ (b : Nat) : SM :=
  sSeq (sPut ["Step"] "sign" (eVar 0) (eVar 1)) (sSeq (sPut ["Step"] "name" (eVar 0) (eVar 2)) (sSeq (sPut ["Step"] "value" (eVar 0) (eVar 3)) (sSeq (sPut ["Step"] "steps" (eVar 0) (eVar 4)) (sSeq (sPut ["Step"] "others" (eVar 0) (eVar 5)) (sNil)))))
def m_Step___init__ : List Val → M Val := runF 0 6 b_Step___init__
def b_answer (b : Nat) : SM :=
  sSeq (sRet (eMake "Step" m_Step___init__ (rCons (eC (.str "answer")) (rCons (eC .non) (rCons (eCall m_value_of (rCons (eVar 0) (rNil))) (rCons (eTup (vNil)) (rCons (eTup (vNil)) (rNil)))))))) (sNil)
def m_answer : List Val → M Val := runF 0 1 b_answer
def b__law_right (b : Nat) : SM :=
  sSeq (sSet 1 (eCall (m__law_worth 60) (rCons (eVar 0) (rCons (eLst (vCons (eC (.str "a")) (vCons (eC (.str "mod")) (vCons (eC (.str "when")) (vNil))))) (rCons (eC (.int 2)) (rNil)))))) (sSeq (sSet 2 (eCall (m_show_value 60) (rCons (eCall (m__law_value 60) (rCons (eVar 1) (rCons (eC (.int 0)) (rNil)))) (rNil)))) (sSeq (sFor (itRng1 (vCons (eC (.int 6)) (vNil))) (gVar 3) (sSeq (sSet 4 (eCall m__law_bent (rCons (eVar 0) (rCons (eVar 2) (rNil))))) (sSeq (sIf (tVal (eOp2 neV (eCall m__law_caught (rCons (eVar 4) (rNil))) (eIf (tVal (eCall m__law_is_value (rCons (eVar 4) (rNil)))) (eLst (vCons (eVar 4) (vNil))) (eLst (vNil))))) (sSeq (sRet (eC (.bl false))) (sNil)) (sNil)) (sNil)))) (sSeq (sRet (eOp2 eqV (eCall (fun vs => (m_show_steps 60) vs) (rCons (eLst (vCons (eCall m_answer (rCons (eC (.int 3)) (rNil))) (vNil))) rNil)) (eC (.str "answer 3")))) (sNil))))
def m__law_right : List Val → M Val := runF 0 5 b__law_right
def b_law (b : Nat) : SM :=
  sSeq (sFor (itRng1 (vCons (eBi max2G (vCons (eC (.int 1)) (vCons (eBi min2G (vCons (eC (.int 8)) (vCons (eBi lenG (vCons (eVar 0) (vNil))) (vNil)))) (vNil)))) (vNil))) (gVar 1) (sSeq (sOwn b 2 0 (eCall m__law_pool (rCons (eVar 0) (rCons (eVar 1) (rNil))))) (sSeq (sFor (itRng1 (vCons (eC (.int 3)) (vNil))) (gVar 3) (sSeq (sIf (tNot (tVal (eCall m__law_right (rCons (eVar 2) (rNil))))) (sSeq (sRet (eC (.bl false))) (sNil)) (sNil)) (sNil))) (sNil)))) (sSeq (sRet (eC (.bl true))) (sNil))
def m_law : List Val → M Val := runF 1 4 b_law
end LW
end

set_option Elab.async false
set_option linter.all false
set_option maxRecDepth 100000
set_option maxHeartbeats 400000
noncomputable section
namespace DL
open PySem PySem.Spec PyProof.Rows L2
/-! # Evaluation: rewriting rules for the meanings -/
def Res.map2 {α β : Type} (r : Res α) (k : α → Sto → Res β) : Res β := match r with
  | .ok a s => k a s
  | .exc e s => .exc e s
  | .bad => .bad
def SR.sq (r : SR) (b : SM) : SR := match r with
  | .ok .nx env' s' => b env' s'
  | r => r
def SR.fin (r : SR) (n : Nat) : Res Val := match r with
  | .ok .nx _ s' => .ok (.d .non) (s'.take n)
  | .ok (.rt v) _ s' => v.fin (s'.take n)
  | .exc d _ s' => .exc d (s'.take n)
  | _ => .bad
theorem ev_run (nk n : Nat) (body : Nat → SM) (args : List Val) (s : Sto) : runF nk n body args s = (body s.length (args.map some ++ List.replicate (n - args.length) none) (s ++ List.replicate nk none)).fin s.length := rfl
@[simp] theorem ev_run0 (n : Nat) (body : Nat → SM) (args : List Val) (s : Sto) : runF 0 n body args s = (body s.length (args.map some ++ List.replicate (n - args.length) none) s).fin s.length := by
  rw [ev_run]
  have : s ++ List.replicate 0 none = s := List.append_nil s
  rw [this]
@[simp] theorem ev_seq (a b : SM) (env : En) (s : Sto) : sSeq a b env s = (a env s).sq b := rfl
@[simp] theorem sq_nx (env : En) (s : Sto) (b : SM) : (SR.ok .nx env s).sq b = b env s := rfl
@[simp] theorem sq_rt (env : En) (s : Sto) (b : SM) (v : Val) : (SR.ok (.rt v) env s).sq b = .ok (.rt v) env s := rfl
@[simp] theorem sq_exc (env : En) (s : Sto) (b : SM) (d : D) : (SR.exc d env s).sq b = .exc d env s := rfl
@[simp] theorem sq_bad (b : SM) : (SR.bad).sq b = .bad := rfl
@[simp] theorem sq_ite (c : Prop) [Decidable c] (x y : SR) (b : SM) : (if c then x else y).sq b = if c then x.sq b else y.sq b := by split <;> rfl
@[simp] theorem fin_nx (env : En) (s : Sto) (n : Nat) : (SR.ok .nx env s).fin n = .ok (.d .non) (s.take n) := rfl
@[simp] theorem fin_rt (env : En) (s : Sto) (n : Nat) (d : D) : (SR.ok (.rt (.d d)) env s).fin n = .ok (.d d) (s.take n) := rfl
@[simp] theorem fin_rtf (env : En) (s : Sto) (n : Nat) (t : Tree) : (SR.ok (.rt (.f t)) env s).fin n = .ok (.f t) (s.take n) := rfl
@[simp] theorem fin_exc (env : En) (s : Sto) (n : Nat) (d : D) : (SR.exc d env s).fin n = .exc d (s.take n) := rfl
@[simp] theorem fin_bad (n : Nat) : (SR.bad).fin n = .bad := rfl
@[simp] theorem fin_ite (c : Prop) [Decidable c] (x y : SR) (n : Nat) : (if c then x else y).fin n = if c then x.fin n else y.fin n := by split <;> rfl
@[simp] theorem sb_ok {α : Type} (a : α) (s : Sto) (env : En) (k : α → Sto → SR) : (Res.ok a s).sb env k = k a s := rfl
@[simp] theorem sb_exc {α : Type} (d : D) (s : Sto) (env : En) (k : α → Sto → SR) : (Res.exc d s).sb env k = .exc d env s := rfl
@[simp] theorem sb_bad {α : Type} (env : En) (k : α → Sto → SR) : (Res.bad).sb env k = .bad := rfl
@[simp] theorem sb_ite {α : Type} (c : Prop) [Decidable c] (x y : Res α) (env : En) (k : α → Sto → SR) : (if c then x else y).sb env k = if c then x.sb env k else y.sb env k := by split <;> rfl
@[simp] theorem bn_ok {α β : Type} (a : α) (s : Sto) (k : α → M β) : (Res.ok a s).bnd k = k a s := rfl
@[simp] theorem bn_exc {α β : Type} (d : D) (s : Sto) (k : α → M β) : (Res.exc d s).bnd k = .exc d s := rfl
@[simp] theorem bn_bad {α β : Type} (k : α → M β) : (Res.bad : Res α).bnd k = .bad := rfl
@[simp] theorem bn_ite {α β : Type} (c : Prop) [Decidable c] (x y : Res α) (k : α → M β) : (if c then x else y).bnd k = if c then x.bnd k else y.bnd k := by split <;> rfl
@[simp] theorem ev_bnd {α β : Type} (m : M α) (k : α → M β) (s : Sto) : bnd m k s = (m s).bnd k := rfl
@[simp] theorem ev_ret {α : Type} (a : α) (s : Sto) : DL.ret a s = .ok a s := rfl
@[simp] theorem ev_bad {α : Type} (s : Sto) : (DL.bad : M α) s = .bad := rfl
@[simp] theorem ev_stl (m : En → M Val) (env : En) (s : Sto) : stl m env s = (m env s).bnd settle := rfl
@[simp] theorem stl_d (d : D) (s : Sto) : settle (.d d) s = .ok (.d d) s := rfl
@[simp] theorem stl_m (l : Nat) (p : List Str) (s : Sto) : settle (.m l p) s = .ok (.m l p) s := rfl
theorem stl_f (t : Tree) (d : D) (s : Sto) (h : fz t = some d) : settle (.f t) s = .ok (.d d) s := by
  show (match fz t with | some d => DL.ret (Val.d d) | none => DL.bad) s = _
  rw [h]; rfl
theorem ev_var (i : Nat) (env : En) (s : Sto) (v : Val) (h : env[i]? = some (some v)) : eVar i env s = .ok v s := by
  unfold eVar; rw [h]
@[simp] theorem ev_c (d : D) (env : En) (s : Sto) : eC d env s = .ok (.d d) s := rfl
@[simp] theorem ev_nil (env : En) (s : Sto) : sNil env s = .ok .nx env s := rfl
@[simp] theorem ev_set (i : Nat) (m : En → M Val) (env : En) (s : Sto) : sSet i m env s = (stl m env s).sb env fun v s1 => v.cD (fun x => .ok .nx (env.set i (some (.d x))) s1) .bad := rfl
@[simp] theorem ev_if (t : En → M Bool) (a b : SM) (env : En) (s : Sto) : sIf t a b env s = (t env s).sb env fun c s1 => if c = true then a env s1 else b env s1 := rfl
@[simp] theorem ev_expr (m : En → M Val) (env : En) (s : Sto) : sExpr m env s = (m env s).sb env fun _ s1 => .ok .nx env s1 := rfl
def rtK (env : En) (v : Val) (s1 : Sto) : SR := match v with
  | .m _ _ => .bad
  | v => .ok (.rt v) env s1
@[simp] theorem ev_rt (m : En → M Val) (env : En) (s : Sto) : sRet m env s = (m env s).sb env (rtK env) := rfl
@[simp] theorem rtK_d (env : En) (d : D) (s : Sto) : rtK env (.d d) s = .ok (.rt (.d d)) env s := rfl
@[simp] theorem rtK_f (env : En) (t : Tree) (s : Sto) : rtK env (.f t) s = .ok (.rt (.f t)) env s := rfl
@[simp] theorem ev_raise (c f : Str) (m : En → M Val) (env : En) (s : Sto) : sRaise c f m env s = (stl m env s).sb env fun v s1 => v.cD (fun x => .exc (.obj c [(f, x)]) env s1) .bad := rfl
@[simp] theorem cD_d {α : Type} (d : D) (k : D → α) (z : α) : (Val.d d).cD k z = k d := rfl
/-! ## calls -/
def Res.cut (r : Res Val) (n : Nat) : Res Val := match r with
  | .ok v s2 => v.fin (s2.take n)
  | .exc d s2 => .exc d (s2.take n)
  | .bad => .bad
@[simp] theorem cut_d (d : D) (s : Sto) (n : Nat) : (Res.ok (.d d) s).cut n = .ok (.d d) (s.take n) := rfl
@[simp] theorem cut_f (t : Tree) (s : Sto) (n : Nat) : (Res.ok (.f t) s).cut n = .ok (.f t) (s.take n) := rfl
@[simp] theorem cut_exc (d : D) (s : Sto) (n : Nat) : (Res.exc d s).cut n = .exc d (s.take n) := rfl
@[simp] theorem cut_bad (n : Nat) : (Res.bad).cut n = .bad := rfl
@[simp] theorem cut_ite (c : Prop) [Decidable c] (x y : Res Val) (n : Nat) : (if c then x else y).cut n = if c then x.cut n else y.cut n := by split <;> rfl
def Res.arg (r : Res (List Val)) (n : Nat) (k : List Val → Sto → Res Val) : Res Val := match r with
  | .ok vs s1 => k vs s1
  | .exc d s1 => .exc d (s1.take n)
  | .bad => .bad
@[simp] theorem arg_ok (vs : List Val) (s : Sto) (n : Nat) (k : List Val → Sto → Res Val) : (Res.ok vs s).arg n k = k vs s := rfl
@[simp] theorem arg_exc (d : D) (s : Sto) (n : Nat) (k : List Val → Sto → Res Val) : (Res.exc d s).arg n k = .exc d (s.take n) := rfl
@[simp] theorem arg_ite (c : Prop) [Decidable c] (x y : Res (List Val)) (n : Nat) (k : List Val → Sto → Res Val) : (if c then x else y).arg n k = if c then x.arg n k else y.arg n k := by split <;> rfl
@[simp] theorem ev_call (f : List Val → M Val) (ma : En → M (List Val)) (env : En) (s : Sto) : eCall f ma env s = (ma env s).arg s.length fun vs s1 => (f vs s1).cut s.length := rfl
@[simp] theorem ev_args (ma : M (List Val)) (K : Nat → List Val → M Val) (s : Sto) : argsM ma K s = (ma s).arg s.length (K s.length) := rfl
@[simp] theorem ev_fcall (f : List Val → M Val) (n : Nat) (vs : List Val) (s : Sto) : fcall f n vs s = (f vs s).cut n := rfl
@[simp] theorem ev_make (c : Str) (f : List Val → M Val) (ma : En → M (List Val)) (env : En) (s : Sto) : eMake c f ma env s = (ma env s).arg s.length (mkI c f s.length) := rfl
theorem mkI_of (c : Str) (f : List Val → M Val) (n : Nat) (vs : List Val) (s : Sto) (t : Tree) (h : f (.m s.length [] :: vs) (s ++ [some [([], .ins c [])]]) = .ok (.d .non) (s ++ [some t])) (hn : n = s.length) : mkI c f n vs s = .ok (.f t) s := by
  subst hn
  unfold mkI
  rw [h]
  simp
@[simp] theorem ev_rnil (env : En) (s : Sto) : rNil env s = .ok [] s := rfl
@[simp] theorem ev_rcons (m : En → M Val) (r : En → M (List Val)) (env : En) (s : Sto) : rCons m r env s = ((m env s).bnd settle).bnd fun v => bnd (r env) fun vs => DL.ret (v :: vs) := rfl
@[simp] theorem ev_vnil (env : En) (s : Sto) : vNil env s = .ok [] s := rfl
@[simp] theorem ev_vcons (m : En → M Val) (r : En → M (List Val)) (env : En) (s : Sto) : vCons m r env s = ((m env s).bnd settle).bnd fun v => bnd (r env) fun vs => DL.ret (v :: vs) := rfl
theorem res_end (s : Sto) (t : Tree) (p : List Str) : res (s ++ [some t]) s.length p = t.lookup p := res_last
theorem upS_end (s : Sto) (t : Tree) (p : List Str) (o : O) : upS (s ++ [some t]) s.length p o = s ++ [some (setT t p o)] := by
  unfold upS
  rw [List.getElem?_append_right (Nat.le_refl _), Nat.sub_self]
  simp
theorem ev_put_end (cs : List Str) (f : Str) (i : Nat) (mv : En → M Val) (env : En) (s : Sto) (c : Str) (fs : List (Str × Fl)) (y : D)
    (hi : env[i]? = some (some (.m s.length []))) (hv : stl mv env (s ++ [some [([], .ins c fs)]]) = .ok (.d y) (s ++ [some [([], .ins c fs)]])) (hc : c ∈ cs) (hl : fs.length < 1000) :
    sPut cs f (eVar i) mv env (s ++ [some [([], .ins c fs)]]) = .ok .nx env (s ++ [some [([], .ins c (putFl f (.d y) fs))]]) := by
  unfold sPut
  rw [hv]
  show ((eVar i env _).sb env _) = _
  rw [ev_var _ _ _ _ hi]
  show (match res _ _ _ with | some (.ins c fs) => _ | _ => _) = _
  rw [res_end]
  show (if c ∈ cs ∧ fs.length < 1000 then _ else _) = _
  rw [if_pos ⟨hc, hl⟩, upS_end]
  rfl
@[simp] theorem take_self (s : Sto) : s.take s.length = s := List.take_of_length_le (Nat.le_refl _)
@[simp] theorem ev_var0 (a : Option Val) (r : En) (s : Sto) : eVar 0 (a :: r) s = (match a with | some v => .ok v s | none => .bad) := by cases a <;> rfl
@[simp] theorem ev_varS (i : Nat) (a : Option Val) (r : En) (s : Sto) : eVar (i + 1) (a :: r) s = eVar i r s := by unfold eVar; simp
/-! ## tests and operators -/
def tvK (v : Val) (s : Sto) : Res Bool := match v with
  | .d (.bl b) => .ok b s
  | _ => .bad
@[simp] theorem ev_tval (m : En → M Val) (env : En) (s : Sto) : tVal m env s = (m env s).bnd tvK := rfl
@[simp] theorem tvK_b (b : Bool) (s : Sto) : tvK (.d (.bl b)) s = .ok b s := rfl
@[simp] theorem ev_tand (a b : En → M Bool) (env : En) (s : Sto) : tAnd a b env s = (a env s).bnd fun x s1 => if x = true then b env s1 else .ok false s1 := by
  unfold tAnd; rw [ev_bnd]; congr; funext x s1; split <;> rfl
@[simp] theorem ev_tor (a b : En → M Bool) (env : En) (s : Sto) : tOr a b env s = (a env s).bnd fun x s1 => if x = true then .ok true s1 else b env s1 := by
  unfold tOr; rw [ev_bnd]; congr; funext x s1; split <;> rfl
@[simp] theorem ev_tnot (a : En → M Bool) (env : En) (s : Sto) : tNot a env s = (a env s).bnd fun x s1 => .ok (!x) s1 := rfl
@[simp] theorem ev_eif (t : En → M Bool) (a b : En → M Val) (env : En) (s : Sto) : eIf t a b env s = (t env s).bnd fun x s1 => if x = true then a env s1 else b env s1 := by
  unfold eIf; rw [ev_bnd]; congr; funext x s1; split <;> rfl
def anK (b : M Val) (v : Val) (s : Sto) : Res Val := match v with
  | .d (.bl x) => if x = true then b s else .ok (.d (.bl false)) s
  | _ => .bad
@[simp] theorem ev_eand (a b : En → M Val) (env : En) (s : Sto) : eAnd a b env s = (a env s).bnd (anK (b env)) := rfl
@[simp] theorem anK_b (b : M Val) (x : Bool) (s : Sto) : anK b (.d (.bl x)) s = if x = true then b s else .ok (.d (.bl false)) s := rfl
def orK (b : M Val) (v : Val) (s : Sto) : Res Val := match v with
  | .d (.bl x) => if x = true then .ok (.d (.bl true)) s else b s
  | _ => .bad
@[simp] theorem ev_eor (a b : En → M Val) (env : En) (s : Sto) : eOr a b env s = (a env s).bnd (orK (b env)) := rfl
@[simp] theorem orK_b (b : M Val) (x : Bool) (s : Sto) : orK b (.d (.bl x)) s = if x = true then .ok (.d (.bl true)) s else b s := rfl
@[simp] theorem ev_op2 (op : Val → Val → M Val) (a b : En → M Val) (env : En) (s : Sto) : eOp2 op a b env s = ((a env s).bnd settle).bnd fun x s1 => ((b env s1).bnd settle).bnd fun y => op x y := rfl
@[simp] theorem v_lt (i j : Int) (s : Sto) : ltV (.d (.int i)) (.d (.int j)) s = .ok (.d (.bl (decide (i < j)))) s := rfl
@[simp] theorem v_le (i j : Int) (s : Sto) : leV (.d (.int i)) (.d (.int j)) s = .ok (.d (.bl (decide (i ≤ j)))) s := rfl
@[simp] theorem v_gt (i j : Int) (s : Sto) : gtV (.d (.int i)) (.d (.int j)) s = .ok (.d (.bl (decide (j < i)))) s := rfl
@[simp] theorem v_ge (i j : Int) (s : Sto) : geV (.d (.int i)) (.d (.int j)) s = .ok (.d (.bl (decide (j ≤ i)))) s := rfl
@[simp] theorem v_sub (i j : Int) (s : Sto) : subV (.d (.int i)) (.d (.int j)) s = .ok (.d (.int (i - j))) s := rfl
@[simp] theorem v_addI (i j : Int) (s : Sto) : addV (.d (.int i)) (.d (.int j)) s = .ok (.d (.int (i + j))) s := rfl
@[simp] theorem v_addS (x y : Str) (s : Sto) : addV (.d (.str x)) (.d (.str y)) s = if x.length + y.length ≤ sizeLine then .ok (.d (.str (x ++ y))) s else .bad := rfl
theorem v_mod (i j : Int) (s : Sto) (h : 0 < j) : modV (.d (.int i)) (.d (.int j)) s = .ok (.d (.int (i % j))) s := int2_eq (C := cPos) h
theorem v_fdiv (i j : Int) (s : Sto) (h : 0 < j ∧ j.natAbs.log2 < 9000) : fdivV (.d (.int i)) (.d (.int j)) s = .ok (.d (.int (i / j))) s := int2_eq (C := cDiv) h
@[simp] theorem v_eqI (i j : Int) (s : Sto) : eqV (.d (.int i)) (.d (.int j)) s = .ok (.d (.bl (decide (i = j)))) s := rfl
@[simp] theorem v_eqS (i j : Str) (s : Sto) : eqV (.d (.str i)) (.d (.str j)) s = .ok (.d (.bl (decide (i = j)))) s := rfl
@[simp] theorem v_neI (i j : Int) (s : Sto) : neV (.d (.int i)) (.d (.int j)) s = .ok (.d (.bl (!decide (i = j)))) s := rfl
@[simp] theorem v_neS (i j : Str) (s : Sto) : neV (.d (.str i)) (.d (.str j)) s = .ok (.d (.bl (!decide (i = j)))) s := rfl
@[simp] theorem v_isN (x : D) (s : Sto) : isNV (.d x) (.d .non) s = .ok (.d (.bl (decide (x = .non)))) s := rfl
@[simp] theorem v_notN (x : D) (s : Sto) : notNV (.d x) (.d .non) s = .ok (.d (.bl (!decide (x = .non)))) s := rfl
@[simp] theorem ev_at (rd : Val → M Val) (ma : En → M Val) (env : En) (s : Sto) : eAt rd ma env s = ((ma env s).bnd settle).bnd rd := rfl
theorem fld_of (cs : List Str) (f c : Str) (fs : List (Str × D)) (x : D) (s : Sto) (hc : c ∈ cs) (hf : fs.lookup f = some x) : fldV cs f (.d (.obj c fs)) s = .ok (.d x) s := by
  unfold fldV; simp [hc, hf]
@[simp] theorem ev_bi (g : List Val → M Val) (mv : En → M (List Val)) (env : En) (s : Sto) : eBi g mv env s = (mv env s).bnd g := rfl
@[simp] theorem ev_isi (tb : List (Str × Bool)) (nb : List (String × Bool)) (m : En → M Val) (env : En) (s : Sto) : eIsi tb nb m env s = ((m env s).bnd settle).bnd (isiV tb nb) := rfl
theorem isi_obj (tb : List (Str × Bool)) (nb : List (String × Bool)) (c : Str) (fs : List (Str × D)) (b : Bool) (s : Sto) (h : tb.lookup c = some b) : isiV tb nb (.d (.obj c fs)) s = .ok (.d (.bl b)) s := by
  show (match tb.lookup c with | some b => Res.ok (Val.d (.bl b)) s | none => .bad) = _
  rw [h]
theorem isi_int (tb : List (Str × Bool)) (nb : List (String × Bool)) (i : Int) (b : Bool) (s : Sto) (h : nb.lookup "int" = some b) : isiV tb nb (.d (.int i)) s = .ok (.d (.bl b)) s := by
  show (match nb.lookup "int" with | some b => Res.ok (Val.d (.bl b)) s | none => .bad) = _
  rw [h]
@[simp] theorem ev_inv (c : Str) (f : List Val → M Val) (ma : En → M Val) (env : En) (s : Sto) : eInv c f ma env s = ((ma env s).bnd settle).bnd fun v s1 => if clsV v s1 = some c then (f [v] s1).cut s1.length else .bad := rfl
@[simp] theorem cls_obj (c : Str) (fs : List (Str × D)) (s : Sto) : clsV (.d (.obj c fs)) s = some c := rfl
@[simp] theorem len_str (z : Str) (s : Sto) : lenG [.d (.str z)] s = if z.length ≤ sizeLine then .ok (.d (.int z.length)) s else .bad := rfl
@[simp] theorem cnt_str (a b : Str) (s : Sto) : countG (.d (.str a)) [.d (.str b)] s = .ok (.d (.int (Txt.count a b))) s := rfl
@[simp] theorem ev_bm (rcv : Val → Sto → Bool) (g : Val → List Val → M Val) (mo : En → M Val) (mv : En → M (List Val)) (env : En) (s : Sto) : eBm rcv g mo mv env s = ((mo env s).bnd settle).bnd fun v s1 => if rcv v s1 = true then (mv env s1).bnd (g v) else .bad := rfl
@[simp] theorem rcv_s (a : Str) (s : Sto) : strR (.d (.str a)) s = true := rfl
def fmK (v : Val) (s : Sto) : Res Val := match v with
  | .d (.str y) => if y.length ≤ sizeLine then .ok (.d (.str y)) s else .bad
  | .d (.int i) => if i.natAbs.log2 < 1920 then .ok (.d (.str (toString i))) s else .bad
  | _ => .bad
@[simp] theorem ev_fmt (m : En → M Val) (env : En) (s : Sto) : eFmt m env s = (m env s).bnd fmK := rfl
@[simp] theorem fmK_s (y : Str) (s : Sto) : fmK (.d (.str y)) s = if y.length ≤ sizeLine then .ok (.d (.str y)) s else .bad := rfl
def joK (ms : List (En → M Val)) (acc : Str) (env : En) (v : Val) (s : Sto) : Res Str := match v with
  | .d (.str y) => if (acc ++ y).length ≤ sizeLine then joinL ms (acc ++ y) env s else .bad
  | _ => .bad
@[simp] theorem ev_fstr (ms : List (En → M Val)) (env : En) (s : Sto) : eFstr ms env s = (joinL ms Str.empty env s).bnd fun y s => .ok (.d (.str y)) s := rfl
@[simp] theorem jo_nil (acc : Str) (env : En) (s : Sto) : joinL [] acc env s = .ok acc s := rfl
@[simp] theorem jo_cons (m : En → M Val) (ms : List (En → M Val)) (acc : Str) (env : En) (s : Sto) : joinL (m :: ms) acc env s = (m env s).bnd (joK ms acc env) := rfl
@[simp] theorem joK_s (ms : List (En → M Val)) (acc : Str) (env : En) (y : Str) (s : Sto) : joK ms acc env (.d (.str y)) s = if (acc ++ y).length ≤ sizeLine then joinL ms (acc ++ y) env s else .bad := rfl
@[simp] theorem str_int (i : Int) (s : Sto) : strG [.d (.int i)] s = if i.natAbs.log2 < 1920 then .ok (.d (.str (toString i))) s else .bad := rfl
theorem len_app (a b : Str) : (a ++ b).length = a.length + b.length := by
  show (a.cps ++ b.cps).size = _
  rw [Array.size_append]
  rfl
theorem in_tup (neg : Bool) (x : D) (xs : List D) (s : Sto) (h : flD x = true) (h2 : xs.all flD = true) : oAlt (inSeq neg) (inStr neg) (.d x) (.d (.tup xs)) s = .ok (.d (.bl (if neg then !(xs.any fun y => eqFl y x) else xs.any fun y => eqFl y x))) s := by
  have e : inSeq neg (.d x) (.d (.tup xs)) s = .ok (.d (.bl (if neg then !(xs.any fun y => eqFl y x) else xs.any fun y => eqFl y x))) s := if_pos ⟨h, h2⟩
  unfold oAlt
  rw [e]
theorem in_str (neg : Bool) (k : Nat) (z : Str) (s : Sto) : oAlt (inSeq neg) (inStr neg) (.d (.str ⟨#[k]⟩)) (.d (.str z)) s = .ok (.d (.bl (if neg then !decide (k ∈ z.cps.toList) else decide (k ∈ z.cps.toList)))) s := rfl
@[simp] theorem ev_tup (mv : En → M (List Val)) (env : En) (s : Sto) : eTup mv env s = (mv env s).bnd mkTup := rfl
@[simp] theorem ev_lst (mv : En → M (List Val)) (env : En) (s : Sto) : eLst mv env s = (mv env s).bnd mkLst := rfl
theorem dsOf_map : ∀ ds : List D, dsOf (ds.map .d) = some ds
  | [] => rfl
  | d :: ds => by
    show (dsOf (ds.map .d)).map (fun l => d :: l) = _
    rw [dsOf_map ds]; rfl
theorem mkT_of (ds : List D) (s : Sto) (h : ds.length ≤ sizeLine) : mkTup (ds.map .d) s = .ok (.d (.tup ds)) s := by
  unfold mkTup; rw [dsOf_map]; exact if_pos h
theorem mkL_of (ds : List D) (s : Sto) (h : ds.length ≤ sizeLine) : mkLst (ds.map .d) s = .ok (.f [([], .lst ds)]) s := by
  unfold mkLst; rw [dsOf_map]; exact if_pos h
@[simp] theorem mkT0 (s : Sto) : mkTup [] s = .ok (.d (.tup [])) s := mkT_of [] s (Nat.zero_le _)
@[simp] theorem mkT1 (a : D) (s : Sto) : mkTup [.d a] s = .ok (.d (.tup [a])) s := mkT_of [a] s (show 1 ≤ sizeLine by decide)
@[simp] theorem mkT2 (a b : D) (s : Sto) : mkTup [.d a, .d b] s = .ok (.d (.tup [a, b])) s := mkT_of [a, b] s (show 2 ≤ sizeLine by decide)
@[simp] theorem mkT3 (a b c : D) (s : Sto) : mkTup [.d a, .d b, .d c] s = .ok (.d (.tup [a, b, c])) s := mkT_of [a, b, c] s (show 3 ≤ sizeLine by decide)
@[simp] theorem mkL0 (s : Sto) : mkLst [] s = .ok (.f [([], .lst [])]) s := mkL_of [] s (Nat.zero_le _)
@[simp] theorem mkL1 (a : D) (s : Sto) : mkLst [.d a] s = .ok (.f [([], .lst [a])]) s := mkL_of [a] s (show 1 ≤ sizeLine by decide)
@[simp] theorem stl_l (xs : List D) (s : Sto) : settle (.f [([], .lst xs)]) s = .ok (.d (.lst xs)) s := stl_f _ _ _ rfl
end DL
end

set_option Elab.async false
set_option linter.all false
set_option maxRecDepth 100000
set_option maxHeartbeats 400000
namespace LW
open PySem PySem.Builtin TL SX NumText
/-! # the texts of values, as lists of signs -/
abbrev sg (l : List Nat) : Nat := l.count 40 + l.count 126
def isLet (c : Nat) : Bool := decide (97 ≤ c) && decide (c ≤ 122)
def isDig (c : Nat) : Bool := decide (48 ≤ c) && decide (c ≤ 57)
def nameL (l : List Nat) : Bool := decide (1 ≤ l.length) && decide (l.length ≤ 8) && l.all isLet
def dgs (l : List Nat) : List Nat := if l.head? = some 45 then l.tail else l
def numT (l : List Nat) : Bool := decide (1 ≤ (dgs l).length) && decide ((dgs l).length ≤ 20) && (dgs l).all isDig && (!decide ((dgs l).head? = some 48) || decide (l = [48]))
def valL (l : List Nat) : Int := if l.head? = some 45 then -((digitsVal (dgs l) : Nat) : Int) else ((digitsVal (dgs l) : Nat) : Int)
theorem dv_snoc (a : List Nat) (d : Nat) : digitsVal (a ++ [d]) = digitsVal a * 10 + (d - 48) := by
  unfold digitsVal; rw [List.foldl_append]; rfl
theorem dv_from (l : List Nat) : ∀ acc : Nat, acc ≤ l.foldl (fun acc c => acc * 10 + (c - 48)) acc := by
  induction l with
  | nil => intro acc; exact Nat.le_refl _
  | cons c l ih => intro acc; rw [List.foldl_cons]; have := ih (acc * 10 + (c - 48)); omega
theorem dv_pos {c : Nat} {l : List Nat} (h1 : 48 < c) : 0 < digitsVal (c :: l) := by
  unfold digitsVal
  rw [List.foldl_cons]
  have := dv_from l (0 * 10 + (c - 48))
  omega
theorem canon : ∀ (n : Nat) (cs : List Nat), cs.length = n → AllDigits cs → cs ≠ [] → (cs.head? ≠ some 48 ∨ cs = [48]) → numL (digitsVal cs) = cs := by
  intro n
  induction n with
  | zero => intro cs h _ hn; exact absurd (List.length_eq_zero_iff.mp h) hn
  | succ n ih =>
    intro cs hl hd hn hc
    obtain ⟨a, d, rfl⟩ : ∃ a d, cs = a ++ [d] := ⟨cs.dropLast, cs.getLast hn, (List.dropLast_concat_getLast hn).symm⟩
    have hdd := hd d (by simp)
    rw [dv_snoc]
    by_cases ha : a = []
    · subst ha
      rw [numL_lt (by show 0 * 10 + (d - 48) < 10; omega)]
      show [48 + (0 * 10 + (d - 48))] = [d]
      congr 1; omega
    · have ha' : a.head? ≠ some 48 := by
        rcases hc with h | h
        · intro e; apply h; cases a with
          | nil => exact absurd rfl ha
          | cons x a => exact e
        · exfalso; cases a with
          | nil => exact ha rfl
          | cons x a => simp at h
      have hp : 0 < digitsVal a := by
        cases a with
        | nil => exact absurd rfl ha
        | cons x a =>
          have hx := hd x (by simp)
          refine dv_pos ?_
          have : x ≠ 48 := fun e => ha' (by rw [e]; rfl)
          omega
      rw [numL_step (by omega)]
      have e1 : (digitsVal a * 10 + (d - 48)) / 10 = digitsVal a := by omega
      have e2 : 48 + (digitsVal a * 10 + (d - 48)) % 10 = d := by omega
      rw [e1, e2, ih a (by simp at hl; exact hl) (fun c hc => hd c (by simp [hc])) ha (.inl ha')]
theorem tl_neg (n : Nat) (h : 0 < n) : tl (Str.ofString (toString (-(n : Int)))) = 45 :: numL n := by
  obtain ⟨m, rfl⟩ : ∃ m, n = m + 1 := ⟨n - 1, by omega⟩
  have e : toString (-((m + 1 : Nat) : Int)) = "-" ++ Nat.repr (m + 1) := rfl
  rw [e, tl_ofString, String.toList_append, List.map_append, Nat.toList_repr]
  rfl
theorem numT_iff {l : List Nat} (h : numT l = true) : AllDigits (dgs l) ∧ dgs l ≠ [] ∧ (dgs l).length ≤ 20 ∧ ((dgs l).head? ≠ some 48 ∨ l = [48]) := by
  unfold numT at h
  simp only [Bool.and_eq_true, decide_eq_true_eq, Bool.or_eq_true, Bool.not_eq_true', decide_eq_false_iff_not] at h
  obtain ⟨⟨⟨h1, h2⟩, h3⟩, h4⟩ := h
  refine ⟨fun c hc => ?_, fun e => by rw [e] at h1; simp at h1, h2, h4⟩
  have := List.all_eq_true.mp h3 c hc
  unfold isDig at this
  simpa using this
theorem num_text {l : List Nat} (h : numT l = true) : tl (Str.ofString (toString (valL l))) = l := by
  obtain ⟨h1, h2, h3, h4⟩ := numT_iff h
  unfold valL
  by_cases hn : l.head? = some 45
  · rw [if_pos hn]
    cases l with
    | nil => cases hn
    | cons c r =>
      have hc : c = 45 := by simpa using hn
      subst hc
      have ed : dgs (45 :: r) = r := by simp [dgs]
      rw [ed] at h1 h2 h3 h4 ⊢
      have h5 : r.head? ≠ some 48 := by
        rcases h4 with h | h
        · exact h
        · simp at h
      have hp : 0 < digitsVal r := by
        cases r with
        | nil => exact absurd rfl h2
        | cons x a =>
          have hx := h1 x (by simp)
          refine dv_pos ?_
          have : x ≠ 48 := fun e => h5 (by rw [e]; rfl)
          omega
      rw [tl_neg _ hp, canon _ r rfl h1 h2 (.inl h5)]
  · rw [if_neg hn]
    have ed : dgs l = l := by unfold dgs; rw [if_neg hn]
    rw [ed] at h1 h2 h3 h4 ⊢
    rw [tl_num, canon _ l rfl h1 h2 h4]
theorem num_read {l : List Nat} (h : numT l = true) : intText? (S l) = some (valL l) ∧ l.length ≤ 21 := by
  obtain ⟨h1, h2, h3, h4⟩ := numT_iff h
  unfold valL
  by_cases hn : l.head? = some 45
  · rw [if_pos hn]
    cases l with
    | nil => cases hn
    | cons c r =>
      have hc : c = 45 := by simpa using hn
      subst hc
      have ed : dgs (45 :: r) = r := by simp [dgs]
      rw [ed] at h1 h2 h3 h4 ⊢
      refine ⟨intText_neg (x := S (45 :: r)) rfl h1 h2 (by rw [S_len, List.length_cons]; omega), by rw [List.length_cons]; omega⟩
  · rw [if_neg hn]
    have ed : dgs l = l := by unfold dgs; rw [if_neg hn]
    rw [ed] at h1 h2 h3 h4 ⊢
    exact ⟨intText_digits (x := S l) h1 h2 (by rw [S_len]; omega), by omega⟩
end LW

set_option Elab.async false
set_option linter.all false
set_option maxRecDepth 100000
set_option maxHeartbeats 400000
namespace LW
open PySem PySem.Builtin TL SX NumText
/-! ## values as trees -/
inductive Ex where
  | pas | nam (t : Str) | num (i : Int) | inv (a : Ex) | bin (g : Str) (a b : Ex)
def Ex.show : Ex → Str
  | .pas => "?"
  | .nam t => t
  | .num i => toString i
  | .inv a => "~" ++ a.show
  | .bin g a b => Str.empty ++ "(" ++ a.show ++ " " ++ g ++ " " ++ b.show ++ ")"
def Ex.dep : Ex → Nat
  | .inv a => a.dep + 1
  | .bin _ a b => max a.dep b.dep + 1
  | _ => 0
def ops : List Str := ["+", "-", "*", "//", "mod", "&", "|", "=", "<"]
def shL : Ex → List Nat
  | .pas => [63]
  | .nam t => tl t
  | .num i => tl (Str.ofString (toString i))
  | .inv a => 126 :: shL a
  | .bin g a b => 40 :: (shL a ++ 32 :: (tl g ++ 32 :: (shL b ++ [41])))
theorem tl_show : ∀ e : Ex, tl e.show = shL e
  | .pas => by show tl (Str.ofString "?") = [63]; rw [tl_ofString]; rfl
  | .nam t => rfl
  | .num i => rfl
  | .inv a => by
    show tl (Str.ofString "~" ++ a.show) = _
    rw [tl_append, tl_show a, tl_ofString]; rfl
  | .bin g a b => by
    show tl (Str.empty ++ Str.ofString "(" ++ a.show ++ Str.ofString " " ++ g ++ Str.ofString " " ++ b.show ++ Str.ofString ")") = _
    simp only [tl_append, tl_show a, tl_show b, tl_ofString]
    show [] ++ [40] ++ shL a ++ [32] ++ tl g ++ [32] ++ shL b ++ [41] = _
    simp [shL]
def dv (g : List Nat) : Bool := decide (g = [47, 47]) || decide (g = [109, 111, 100])
def opsL : List (List Nat) := [[43], [45], [42], [47, 47], [109, 111, 100], [38], [124], [61], [60]]
theorem ops_tl {g : List Nat} : S g ∈ ops ↔ g ∈ opsL := by
  have e : ops = opsL.map S := by decide
  rw [e, List.mem_map]
  exact ⟨fun ⟨x, h, k⟩ => S_inj k ▸ h, fun h => ⟨g, h, rfl⟩⟩
def posNum : Ex → Bool
  | .num j => decide (1 ≤ j)
  | _ => false
def Good : Ex → Prop
  | .pas => True
  | .nam t => nameL (tl t) = true
  | .num i => ∃ l, numT l = true ∧ valL l = i
  | .inv a => Good a
  | .bin g a b => tl g ∈ opsL ∧ Good a ∧ Good b ∧ (dv (tl g) = true → posNum b = true)
/-! ## the program's reading -/
def wc (l : List Nat) : Int := (l.count 40 : Int) - (l.count 41 : Int)
def sp2 : List (List Nat) → Int → List (List Nat) → Option (List (List Nat) × List Nat × List (List Nat))
  | _, _, [] => none
  | pre, d, p :: r => if d = 0 ∧ pre ≠ [] ∧ r ≠ [] then some (pre, p, r) else sp2 (pre ++ [p]) (d + wc p) r
def mid (l : List Nat) : List Nat := l.tail.dropLast
def spP (l : List Nat) : Option (List Nat × List Nat × List Nat) := (sp2 [] 0 (spl [32] 0 [] (mid l))).map fun q => (joinL [32] q.1, q.2.1, joinL [32] q.2.2)
def vin : Nat → List Nat → Option Ex
  | 0, _ => none
  | n + 1, l =>
    if l = [63] then some .pas
    else if nameL l = true then some (.nam (S l))
    else if numT l = true then some (.num (valL l))
    else if l.head? = some 126 then (vin n l.tail).map .inv
    else if l.head? ≠ some 40 ∨ l.getLast? ≠ some 41 then none
    else match spP l with
      | none => none
      | some (p, g, q) => if g ∉ opsL then none else match vin n p, vin n q with
        | some a, some b => if dv g = true ∧ posNum b = false then none else some (.bin (S g) a b)
        | _, _ => none
theorem vin_good : ∀ (n : Nat) (l : List Nat) (e : Ex), vin n l = some e → Good e ∧ e.dep < n
  | 0, l, e, h => by cases h
  | n + 1, l, e, h => by
    unfold vin at h
    split at h
    · cases h; exact ⟨trivial, Nat.succ_pos _⟩
    split at h
    · rename_i hn; cases h; exact ⟨hn, Nat.succ_pos _⟩
    split at h
    · rename_i hn; cases h; exact ⟨⟨l, hn, rfl⟩, Nat.succ_pos _⟩
    split at h
    · cases hv : vin n l.tail with
      | none => rw [hv] at h; cases h
      | some a =>
        rw [hv] at h; cases h
        have ih := vin_good n _ _ hv
        exact ⟨ih.1, Nat.succ_lt_succ ih.2⟩
    split at h
    · cases h
    split at h
    · cases h
    · rename_i p g q hs
      split at h
      · cases h
      · rename_i hg
        split at h
        · rename_i a b ha hb
          split at h
          · cases h
          · rename_i hd
            cases h
            have i1 := vin_good n _ _ ha
            have i2 := vin_good n _ _ hb
            refine ⟨⟨Decidable.not_not.mp hg, i1.1, i2.1, fun hd' => ?_⟩, ?_⟩
            · cases hp : posNum b
              · exact absurd ⟨hd', hp⟩ hd
              · rfl
            · show max a.dep b.dep + 1 < n + 1
              omega
        · cases h
/-! ## brackets -/
def w1 (c : Nat) : Int := if c = 40 then 1 else if c = 41 then -1 else 0
def dsum : List Nat → Int
  | [] => 0
  | c :: r => w1 c + dsum r
theorem wc_dsum : ∀ l : List Nat, wc l = dsum l
  | [] => rfl
  | c :: r => by
    have ih := wc_dsum r
    unfold wc at ih ⊢
    simp only [dsum, w1, List.count_cons]
    by_cases h : c = 40
    · subst h; simp; omega
    · by_cases k : c = 41
      · subst k; simp; omega
      · simp [h, k]; omega
theorem dsum_app : ∀ a b : List Nat, dsum (a ++ b) = dsum a + dsum b
  | [], b => by simp [dsum]
  | c :: r, b => by
    have ih := dsum_app r b
    show w1 c + dsum (r ++ b) = w1 c + dsum r + dsum b
    omega
def nn : Int → List Nat → Prop
  | k, [] => 0 ≤ k
  | k, c :: r => 0 ≤ k ∧ nn (k + w1 c) r
def s0 : Int → List Nat → Prop
  | _, [] => True
  | k, c :: r => (c = 32 → 0 < k) ∧ s0 (k + w1 c) r
theorem nn_app : ∀ (k : Int) (a b : List Nat), nn k a → nn (k + dsum a) b → nn k (a ++ b)
  | k, [], b, _, h => by simpa [dsum] using h
  | k, c :: r, b, h1, h2 => ⟨h1.1, nn_app (k + w1 c) r b h1.2 (by
      have : k + w1 c + dsum r = k + dsum (c :: r) := by show _ = k + (w1 c + dsum r); omega
      rw [this]; exact h2)⟩
theorem s0_app : ∀ (k : Int) (a b : List Nat), s0 k a → s0 (k + dsum a) b → s0 k (a ++ b)
  | k, [], b, _, h => by simpa [dsum] using h
  | k, c :: r, b, h1, h2 => ⟨h1.1, s0_app (k + w1 c) r b h1.2 (by
      have : k + w1 c + dsum r = k + dsum (c :: r) := by show _ = k + (w1 c + dsum r); omega
      rw [this]; exact h2)⟩
theorem nn_mono : ∀ (k m : Int) (a : List Nat), k ≤ m → nn k a → nn m a
  | k, m, [], h, h1 => Int.le_trans h1 h
  | k, m, c :: r, h, h1 => ⟨Int.le_trans h1.1 h, nn_mono _ _ r (by omega) h1.2⟩
theorem s0_of : ∀ (k : Int) (a : List Nat), nn k a → s0 (k + 1) a
  | k, [], _ => trivial
  | k, c :: r, h => ⟨fun _ => by have := h.1; omega, by
      have := s0_of (k + w1 c) r h.2
      rw [show k + 1 + w1 c = k + w1 c + 1 by omega]; exact this⟩
theorem s0_at : ∀ (k : Int) (u v : List Nat), s0 k (u ++ 32 :: v) → 0 < k + dsum u
  | k, [], v, h => by have := h.1 rfl; simpa [dsum] using this
  | k, c :: r, v, h => by
    have := s0_at (k + w1 c) r v h.2
    show 0 < k + (w1 c + dsum r)
    omega
theorem plain {l : List Nat} (h : ∀ c ∈ l, c ≠ 40 ∧ c ≠ 41 ∧ c ≠ 32) : dsum l = 0 ∧ ∀ k, 0 ≤ k → nn k l ∧ s0 k l := by
  induction l with
  | nil => exact ⟨rfl, fun k hk => ⟨hk, trivial⟩⟩
  | cons c r ih =>
    obtain ⟨h1, h2, h3⟩ := h c (by simp)
    have ih := ih fun d hd => h d (by simp [hd])
    have w0 : w1 c = 0 := by unfold w1; rw [if_neg h1, if_neg h2]
    refine ⟨by show w1 c + dsum r = 0; rw [w0, ih.1]; rfl, fun k hk => ?_⟩
    have := ih.2 k hk
    refine ⟨⟨hk, ?_⟩, fun e => absurd e h3, ?_⟩ <;> rw [w0, Int.add_zero]
    · exact this.1
    · exact this.2
theorem name_chars {l : List Nat} (h : nameL l = true) : ∀ c ∈ l, 97 ≤ c ∧ c ≤ 122 := by
  unfold nameL at h
  simp only [Bool.and_eq_true] at h
  intro c hc
  have := List.all_eq_true.mp h.2 c hc
  unfold isLet at this
  simpa using this
theorem num_chars {l : List Nat} (h : numT l = true) : ∀ c ∈ l, c = 45 ∨ (48 ≤ c ∧ c ≤ 57) := by
  obtain ⟨h1, h2, h3, h4⟩ := numT_iff h
  intro c hc
  unfold dgs at h1
  split at h1
  · rename_i hn
    cases l with
    | nil => cases hn
    | cons d r =>
      have : d = 45 := by simpa using hn
      rcases List.mem_cons.mp hc with e | e
      · exact .inl (e.trans this)
      · exact .inr (h1 c e)
  · exact .inr (h1 c hc)
theorem op_chars {g : List Nat} (h : g ∈ opsL) : g ≠ [] ∧ ∀ c ∈ g, c ≠ 40 ∧ c ≠ 41 ∧ c ≠ 32 := by
  revert g; decide
theorem sh_bal : ∀ e : Ex, Good e → dsum (shL e) = 0 ∧ nn 0 (shL e) ∧ s0 0 (shL e)
  | .pas, _ => by
    have := plain (l := [63]) (by decide)
    exact ⟨this.1, (this.2 0 (by decide)).1, (this.2 0 (by decide)).2⟩
  | .nam t, h => by
    have := plain (l := tl t) fun c hc => by have := name_chars h c hc; omega
    exact ⟨this.1, (this.2 0 (by decide)).1, (this.2 0 (by decide)).2⟩
  | .num i, h => by
    obtain ⟨l, h1, rfl⟩ := h
    have := plain (l := tl (Str.ofString (toString (valL l)))) fun c hc => by rw [num_text h1] at hc; have := num_chars h1 c hc; omega
    exact ⟨this.1, (this.2 0 (by decide)).1, (this.2 0 (by decide)).2⟩
  | .inv a, h => by
    obtain ⟨h1, h2, h3⟩ := sh_bal a h
    refine ⟨?_, ⟨by decide, h2⟩, nofun, h3⟩
    show w1 126 + dsum (shL a) = 0
    rw [h1]; rfl
  | .bin g a b, h => by
    obtain ⟨hg, ha, hb, _⟩ := h
    obtain ⟨a1, a2, a3⟩ := sh_bal a ha
    obtain ⟨b1, b2, b3⟩ := sh_bal b hb
    have pg := plain (op_chars hg).2
    have wX : dsum (shL a ++ 32 :: (tl g ++ 32 :: shL b)) = 0 := by
      rw [dsum_app, a1]
      show 0 + (w1 32 + dsum (tl g ++ 32 :: shL b)) = 0
      rw [dsum_app, pg.1]
      show 0 + (w1 32 + (0 + (w1 32 + dsum (shL b)))) = 0
      rw [b1]; rfl
    have nX : nn 0 (shL a ++ 32 :: (tl g ++ 32 :: shL b)) := by
      refine nn_app 0 _ _ a2 ?_
      rw [a1]
      refine ⟨by decide, nn_app _ _ _ (pg.2 _ (by decide)).1 ?_⟩
      rw [pg.1]
      exact ⟨by decide, b2⟩
    have eX : shL (.bin g a b) = 40 :: ((shL a ++ 32 :: (tl g ++ 32 :: shL b)) ++ [41]) := by simp [shL]
    rw [eX]
    refine ⟨?_, ⟨by decide, ?_⟩, nofun, ?_⟩
    · show w1 40 + dsum (_ ++ [41]) = 0
      rw [dsum_app, wX]; rfl
    · refine nn_app _ _ _ (nn_mono 0 _ _ (by decide) nX) ?_
      rw [wX]; exact ⟨by decide, show (0 : Int) ≤ 0 + w1 40 + 0 + w1 41 by decide⟩
    · refine s0_app _ _ _ (s0_of 0 _ nX) ?_
      exact ⟨nofun, trivial⟩
end LW

set_option Elab.async false
set_option linter.all false
set_option maxRecDepth 100000
set_option maxHeartbeats 400000
namespace LW
open PySem PySem.Builtin TL SX NumText
/-! ## split of a text at blanks -/
abbrev spb (l : List Nat) : List (List Nat) := spl [32] 0 [] l
theorem spb_mid (p : List Nat) (q : List Nat) (h : 32 ∉ p) : spb (p ++ 32 :: q) = p :: spb q := by
  have := spl_part1 (s := 32) (S := []) (p := p) (rest := q) (acc := []) h
  simpa using this
theorem spb_one (p : List Nat) (h : 32 ∉ p) : spb p = [p] := by
  have := spl_last1 (s := 32) (S := []) (p := p) (acc := []) h
  simpa using this
theorem cutb (l : List Nat) : 32 ∉ l ∨ ∃ p q, l = p ++ 32 :: q ∧ 32 ∉ p := by
  induction l with
  | nil => exact .inl (by simp)
  | cons c r ih =>
    by_cases hc : c = 32
    · subst hc; exact .inr ⟨[], r, rfl, by simp⟩
    · rcases ih with h | ⟨p, q, rfl, h⟩
      · exact .inl (by simp [h, Ne.symm hc])
      · exact .inr ⟨c :: p, q, rfl, by simp [h, Ne.symm hc]⟩
theorem spb_join : ∀ (n : Nat) (l : List Nat), l.length ≤ n → joinL [32] (spb l) = l ∧ spb l ≠ [] ∧ (∀ p ∈ spb l, 32 ∉ p) := by
  intro n
  induction n with
  | zero =>
    intro l h
    have : l = [] := List.length_eq_zero_iff.mp (by omega)
    subst this
    rw [spb_one [] (by simp)]
    exact ⟨rfl, by simp, by simp⟩
  | succ n ih =>
    intro l h
    rcases cutb l with hl | ⟨p, q, rfl, hp⟩
    · rw [spb_one l hl]; exact ⟨rfl, by simp, by simpa using hl⟩
    · rw [spb_mid p q hp]
      obtain ⟨h1, h2, h3⟩ := ih q (by simp at h; omega)
      refine ⟨?_, by simp, fun x hx => ?_⟩
      · obtain ⟨y, ys, e⟩ : ∃ y ys, spb q = y :: ys := by
          cases he : spb q with
          | nil => exact absurd he h2
          | cons y ys => exact ⟨y, ys, rfl⟩
        rw [e] at h1 ⊢
        show p ++ ([32] ++ joinL [32] (y :: ys)) = _
        rw [h1]; simp
      · rcases List.mem_cons.mp hx with rfl | hx
        · exact hp
        · exact h3 x hx
theorem spb_app : ∀ (n : Nat) (l m : List Nat), l.length ≤ n → spb (l ++ 32 :: m) = spb l ++ spb m := by
  intro n
  induction n with
  | zero =>
    intro l m h
    have : l = [] := List.length_eq_zero_iff.mp (by omega)
    subst this
    rw [spb_one [] (by simp)]
    exact spb_mid [] m (by simp)
  | succ n ih =>
    intro l m h
    rcases cutb l with hl | ⟨p, q, rfl, hp⟩
    · rw [spb_one l hl, spb_mid l m hl]; rfl
    · rw [List.append_assoc, List.cons_append, spb_mid p _ hp, spb_mid p _ hp, ih q m (by simp at h; omega)]; rfl
/-- the pieces of a shown text, their brackets -/
theorem sp2_run : ∀ (ps pre : List (List Nat)) (d : Int) (g : List Nat) (qs : List (List Nat)), qs ≠ [] →
    (pre ≠ [] ∨ ps ≠ []) → d + dsum (joinL [32] ps) = 0 → (pre ≠ [] → ps ≠ [] → d ≠ 0) → (ps ≠ [] → s0 d (joinL [32] ps)) →
    sp2 pre d (ps ++ g :: qs) = some (pre ++ ps, g, qs)
  | [], pre, d, g, qs, hq, hp, hs, _, _ => by
    have hd : d = 0 := by have : dsum (joinL [32] ([] : List (List Nat))) = 0 := rfl; omega
    have hp' : pre ≠ [] := hp.resolve_right (by simp)
    show (if d = 0 ∧ pre ≠ [] ∧ qs ≠ [] then some (pre, g, qs) else _) = _
    rw [if_pos ⟨hd, hp', hq⟩, List.append_nil]
  | p :: r, pre, d, g, qs, hq, hp, hs, hd, h0 => by
    show (if d = 0 ∧ pre ≠ [] ∧ (r ++ g :: qs) ≠ [] then _ else sp2 (pre ++ [p]) (d + wc p) (r ++ g :: qs)) = _
    rw [if_neg (fun h => hd h.2.1 (by simp) h.1)]
    rw [wc_dsum]
    have e : pre ++ p :: r = (pre ++ [p]) ++ r := by simp
    rw [e]
    cases r with
    | nil => exact sp2_run [] (pre ++ [p]) _ g qs hq (.inl (by simp)) (by have : dsum (joinL [32] [p]) = dsum p := rfl; have k : dsum (joinL [32] ([] : List (List Nat))) = 0 := rfl; omega) (fun _ h => absurd rfl h) (fun h => absurd rfl h)
    | cons y ys =>
      have ej : joinL [32] (p :: y :: ys) = p ++ 32 :: joinL [32] (y :: ys) := by
        show p ++ ([32] ++ joinL [32] (y :: ys)) = _
        simp
      have hs0 := h0 (by simp)
      rw [ej] at hs hs0
      have hpos := s0_at d p _ hs0
      rw [dsum_app] at hs
      have w32 : dsum (32 :: joinL [32] (y :: ys)) = dsum (joinL [32] (y :: ys)) := by show w1 32 + _ = _; simp [w1]
      rw [w32] at hs
      refine sp2_run (y :: ys) (pre ++ [p]) _ g qs hq (.inl (by simp)) (by omega) (fun _ _ => by omega) (fun _ => ?_)
      have : ∀ (k : Int) (a b : List Nat), s0 k (a ++ b) → s0 (k + dsum a) b := by
        intro k a
        induction a generalizing k with
        | nil => intro b h; simpa [dsum] using h
        | cons c r ih =>
          intro b h
          have := ih (k + w1 c) b h.2
          show s0 (k + (w1 c + dsum r)) b
          rw [show k + (w1 c + dsum r) = k + w1 c + dsum r by omega]; exact this
      have := (this d p _ hs0).2
      simpa [w1] using this
theorem spP_sh {g x y : List Nat} (hg : g ∈ opsL) (hx : dsum x = 0 ∧ s0 0 x) : spP (40 :: (x ++ 32 :: (g ++ 32 :: (y ++ [41])))) = some (x, g, y) := by
  have em : mid (40 :: (x ++ 32 :: (g ++ 32 :: (y ++ [41])))) = x ++ 32 :: (g ++ 32 :: y) := by
    have e : (x ++ 32 :: (g ++ 32 :: (y ++ [41]))) = (x ++ 32 :: (g ++ 32 :: y)) ++ [41] := by simp
    unfold mid
    rw [List.tail_cons, e, List.dropLast_concat]
  have hgf : 32 ∉ g := fun h => (op_chars hg).2 32 h |>.2.2 rfl
  have e2 : spb (x ++ 32 :: (g ++ 32 :: y)) = spb x ++ g :: spb y := by
    rw [spb_app _ x _ (Nat.le_refl _), spb_mid g y hgf]
  obtain ⟨j1, j2, j3⟩ := spb_join _ x (Nat.le_refl _)
  obtain ⟨k1, k2, k3⟩ := spb_join _ y (Nat.le_refl _)
  unfold spP
  rw [em]
  show Option.map _ (sp2 [] 0 (spb (x ++ 32 :: (g ++ 32 :: y)))) = _
  rw [e2, sp2_run (spb x) [] 0 g (spb y) k2 (.inr j2) (by rw [j1, hx.1]; rfl) (fun h => absurd rfl h) (fun _ => by rw [j1]; exact hx.2)]
  simp [j1, k1]
theorem name_not {l : List Nat} {c : Nat} (h : c ∈ l) (hc : c < 97 ∨ 122 < c) : nameL l = false := by
  cases e : nameL l
  · rfl
  · have := name_chars e c h; omega
theorem num_not {l : List Nat} {c : Nat} (h : c ∈ l) (hc : c ≠ 45 ∧ (c < 48 ∨ 57 < c)) : numT l = false := by
  cases e : numT l
  · rfl
  · have := num_chars e c h; omega
theorem num_ne {l : List Nat} (h : numT l = true) : ∃ c ∈ l, 48 ≤ c ∧ c ≤ 57 := by
  obtain ⟨h1, h2, h3, h4⟩ := numT_iff h
  obtain ⟨c, hc⟩ := List.exists_mem_of_ne_nil _ h2
  refine ⟨c, ?_, h1 c hc⟩
  unfold dgs at hc
  split at hc
  · exact List.mem_of_mem_tail hc
  · exact hc
theorem pos_of {b : Ex} (h : posNum b = true) : ∃ j : Int, b = .num j ∧ 1 ≤ j := by
  cases b <;> first | cases h; done | skip
  rename_i i
  exact ⟨i, rfl, of_decide_eq_true h⟩
theorem vin_sh : ∀ (e : Ex) (n : Nat), Good e → e.dep < n → vin n (shL e) = some e
  | .pas, n + 1, _, _ => by unfold vin; rw [if_pos (show shL .pas = [63] from rfl)]
  | .nam t, n + 1, h, _ => by
    have h' : nameL (tl t) = true := h
    unfold vin
    rw [if_neg (fun e => by rw [show shL (.nam t) = tl t from rfl] at e; rw [e] at h'; revert h'; decide), if_pos (show nameL (shL (.nam t)) = true from h')]
    show some (Ex.nam (S (tl t))) = _
    rw [S_tl]
  | .num i, n + 1, h, _ => by
    obtain ⟨l, h1, rfl⟩ := h
    have e : shL (.num (valL l)) = l := num_text h1
    rw [e]
    obtain ⟨c, hc, hc2⟩ := num_ne h1
    unfold vin
    rw [if_neg (fun e => by rw [e] at h1; revert h1; decide), if_neg (by rw [name_not hc (by omega)]; decide), if_pos h1]
  | .inv a, n + 1, h, hd => by
    have hd' : a.dep + 1 < n + 1 := hd
    have ih := vin_sh a n h (by omega)
    have m : 126 ∈ shL (.inv a) := List.mem_cons_self ..
    unfold vin
    rw [if_neg (fun e => by have : (126 : Nat) = 63 := (List.cons.inj e).1; omega), if_neg (by rw [name_not m (by omega)]; decide), if_neg (by rw [num_not m (by omega)]; decide), if_pos (show (shL (.inv a)).head? = some 126 from rfl)]
    show Option.map Ex.inv (vin n (shL a)) = _
    rw [ih]; rfl
  | .bin g a b, n + 1, h, hd => by
    obtain ⟨hg, ha, hb, hp⟩ := h
    have hd' : max a.dep b.dep + 1 < n + 1 := hd
    have iha := vin_sh a n ha (by omega)
    have ihb := vin_sh b n hb (by omega)
    have m : 40 ∈ shL (.bin g a b) := List.mem_cons_self ..
    obtain ⟨b1, _, b3⟩ := sh_bal a ha
    have es := spP_sh (y := shL b) hg ⟨b1, b3⟩
    unfold vin
    rw [if_neg (fun e => by have : (40 : Nat) = 63 := (List.cons.inj e).1; omega), if_neg (by rw [name_not m (by omega)]; decide), if_neg (by rw [num_not m (by omega)]; decide), if_neg (fun e => by have : some 40 = some 126 := e; simp at this)]
    have el : (shL (.bin g a b)).getLast? = some 41 := by
      have e : shL (.bin g a b) = (40 :: (shL a ++ 32 :: (tl g ++ 32 :: shL b))) ++ [41] := by simp [shL]
      rw [e, List.getLast?_concat]
    rw [if_neg (fun e => by rcases e with e | e; exact e rfl; exact e el)]
    show (match spP (40 :: (shL a ++ 32 :: (tl g ++ 32 :: (shL b ++ [41])))) with | none => none | some (p, g, q) => _) = _
    rw [es]
    show (if tl g ∉ opsL then none else match vin n (shL a), vin n (shL b) with | some a, some b => _ | _, _ => none) = _
    rw [if_neg (fun e => e hg), iha, ihb]
    show (if dv (tl g) = true ∧ posNum b = false then none else some (Ex.bin (S (tl g)) a b)) = _
    rw [if_neg (fun e => by rw [hp e.1] at e; cases e.2), S_tl]
end LW

set_option Elab.async false
set_option linter.all false
set_option maxRecDepth 100000
set_option maxHeartbeats 400000
namespace LW
open PySem PySem.Builtin TL SX NumText
/-! ## the law's reading -/
def isNum1 (c : Nat) : Bool := decide (c = 45) || isDig c
def not32 (c : Nat) : Bool := decide (c ≠ 32)
def isLead (l : List Nat) : Bool := decide (l.head? = some 63) || decide (l.head? = some 126) || decide (l.head? = some 40)
def enl : Nat → List Nat → Option (List Nat)
  | 0, _ => none
  | n + 1, l =>
    if l.head? = some 63 then some l.tail
    else if l.head? = some 126 then enl n l.tail
    else if l.head? ≠ some 40 then
      if l.takeWhile isLet ≠ [] then (if (l.takeWhile isLet).length < 9 then some (l.dropWhile isLet) else none)
      else if numT (l.takeWhile isNum1) = true then some (l.dropWhile isNum1) else none
    else match enl n l.tail with
      | none => none
      | some r => if r.head? ≠ some 32 then none
        else if r.tail.takeWhile not32 ∉ opsL ∨ (r.tail.dropWhile not32).head? ≠ some 32 then none
        else match enl n (r.tail.dropWhile not32).tail with
          | none => none
          | some r4 => if dv (r.tail.takeWhile not32) = true ∧ ¬ (numT ((r.tail.dropWhile not32).tail.take ((r.tail.dropWhile not32).tail.length - r4.length)) = true ∧ 1 ≤ valL ((r.tail.dropWhile not32).tail.take ((r.tail.dropWhile not32).tail.length - r4.length))) then none
            else if r4.head? = some 41 then some r4.tail else none
theorem tw_app {p : Nat → Bool} : ∀ {a r : List Nat}, (∀ c ∈ a, p c = true) → (∀ c, r.head? = some c → p c = false) → (a ++ r).takeWhile p = a ∧ (a ++ r).dropWhile p = r
  | [], [], _, _ => ⟨rfl, rfl⟩
  | [], c :: r, _, h => by
    have := h c rfl
    simp [this]
  | c :: a, r, h1, h2 => by
    have h := h1 c (by simp)
    have ih := tw_app (a := a) (r := r) (fun d hd => h1 d (by simp [hd])) h2
    simp [h, ih.1, ih.2]
def endOk (r : List Nat) : Prop := ∀ c, r.head? = some c → c = 32 ∨ c = 41
theorem head_cons {l : List Nat} {c : Nat} (h : l.head? = some c) : l = c :: l.tail := by
  cases l with
  | nil => cases h
  | cons d r => have : d = c := by simpa using h
                subst this; rfl
theorem name_head {l : List Nat} (h : nameL l = true) : ∃ c r, l = c :: r ∧ 97 ≤ c ∧ c ≤ 122 := by
  cases l with
  | nil => exact absurd h (by decide)
  | cons c r => exact ⟨c, r, rfl, name_chars h c (by simp)⟩
theorem num_head {l : List Nat} (h : numT l = true) : ∃ c r, l = c :: r ∧ (c = 45 ∨ (48 ≤ c ∧ c ≤ 57)) := by
  cases l with
  | nil => exact absurd h (by decide)
  | cons c r => exact ⟨c, r, rfl, num_chars h c (by simp)⟩
theorem enl_sh : ∀ (e : Ex) (n : Nat) (r : List Nat), Good e → e.dep < n → endOk r → enl n (shL e ++ r) = some r
  | .pas, n + 1, r, _, _, _ => by
    unfold enl
    rw [if_pos (show (shL .pas ++ r).head? = some 63 from rfl)]; rfl
  | .nam t, n + 1, r, h, _, hr => by
    have h' : nameL (tl t) = true := h
    obtain ⟨c, u, e, hc⟩ := name_head h'
    have hh : (shL (.nam t) ++ r).head? = some c := by show (tl t ++ r).head? = _; rw [e]; rfl
    have hw := tw_app (p := isLet) (a := tl t) (r := r) (fun d hd => by have := name_chars h' d hd; unfold isLet; simpa using this) (fun d hd => by rcases hr d hd with rfl | rfl <;> decide)
    have hl : (tl t).length < 9 := by
      unfold nameL at h'
      simp only [Bool.and_eq_true, decide_eq_true_eq] at h'
      omega
    unfold enl
    rw [hh, if_neg (by simp; omega), if_neg (by simp; omega), if_pos (by simp; omega)]
    rw [show shL (.nam t) ++ r = tl t ++ r from rfl, hw.1, hw.2, if_pos (by rw [e]; simp), if_pos hl]
  | .num i, n + 1, r, h, _, hr => by
    obtain ⟨l, h1, rfl⟩ := h
    have e : shL (.num (valL l)) = l := num_text h1
    rw [e]
    obtain ⟨c, u, e, hc⟩ := num_head h1
    have hh : (l ++ r).head? = some c := by rw [e]; rfl
    have h0 : (l ++ r).takeWhile isLet = [] := by
      rw [e]
      have : isLet c = false := by unfold isLet; simp; omega
      simp [this]
    have hw := tw_app (p := isNum1) (a := l) (r := r) (fun d hd => by have := num_chars h1 d hd; unfold isNum1 isDig; simpa using this) (fun d hd => by rcases hr d hd with rfl | rfl <;> decide)
    unfold enl
    rw [hh, if_neg (by simp; omega), if_neg (by simp; omega), if_pos (by simp; omega), h0, if_neg (by simp), hw.1, if_pos h1, hw.2]
  | .inv a, n + 1, r, h, hd, hr => by
    have hd' : a.dep + 1 < n + 1 := hd
    have ih := enl_sh a n r h (by omega) hr
    unfold enl
    rw [if_neg (fun e => by have : some 126 = some 63 := e; simp at this), if_pos (show (shL (.inv a) ++ r).head? = some 126 from rfl)]
    exact ih
  | .bin g a b, n + 1, r, h, hd, hr => by
    obtain ⟨hg, ha, hb, hp⟩ := h
    have hd' : max a.dep b.dep + 1 < n + 1 := hd
    have e : shL (.bin g a b) ++ r = 40 :: (shL a ++ 32 :: (tl g ++ 32 :: (shL b ++ 41 :: r))) := by simp [shL]
    rw [e]
    have iha := enl_sh a n (32 :: (tl g ++ 32 :: (shL b ++ 41 :: r))) ha (by omega) (fun c h => .inl (by simpa using h.symm))
    have ihb := enl_sh b n (41 :: r) hb (by omega) (fun c h => .inr (by simpa using h.symm))
    have hw := tw_app (p := not32) (a := tl g) (r := 32 :: (shL b ++ 41 :: r)) (fun d hd => by have := (op_chars hg).2 d hd; unfold not32; simpa using this.2.2) (fun d hd => by rw [show (32 :: (shL b ++ 41 :: r)).head? = some 32 from rfl] at hd; cases hd; decide)
    have ht : (shL b ++ 41 :: r).take ((shL b ++ 41 :: r).length - (41 :: r).length) = shL b := by
      rw [List.length_append, Nat.add_sub_cancel, List.take_left]
    unfold enl
    rw [if_neg (fun e => by have : some 40 = some 63 := e; simp at this), if_neg (fun e => by have : some 40 = some 126 := e; simp at this), if_neg (fun e => e rfl)]
    show (match enl n (shL a ++ _) with | none => none | some r => _) = _
    rw [iha]
    show (if (some 32 : Option Nat) ≠ some 32 then none else if (tl g ++ 32 :: (shL b ++ 41 :: r)).takeWhile not32 ∉ opsL ∨ ((tl g ++ 32 :: (shL b ++ 41 :: r)).dropWhile not32).head? ≠ some 32 then none else match enl n ((tl g ++ 32 :: (shL b ++ 41 :: r)).dropWhile not32).tail with | none => none | some r4 => if dv ((tl g ++ 32 :: (shL b ++ 41 :: r)).takeWhile not32) = true ∧ ¬ (numT (((tl g ++ 32 :: (shL b ++ 41 :: r)).dropWhile not32).tail.take (((tl g ++ 32 :: (shL b ++ 41 :: r)).dropWhile not32).tail.length - r4.length)) = true ∧ 1 ≤ valL (((tl g ++ 32 :: (shL b ++ 41 :: r)).dropWhile not32).tail.take (((tl g ++ 32 :: (shL b ++ 41 :: r)).dropWhile not32).tail.length - r4.length))) then none else if r4.head? = some 41 then some r4.tail else none) = _
    rw [hw.1, hw.2, if_neg (fun e => e rfl), if_neg (fun e => by rcases e with e | e; exact e hg; exact e rfl)]
    show (match enl n (shL b ++ 41 :: r) with | none => none | some r4 => if dv (tl g) = true ∧ ¬ (numT ((shL b ++ 41 :: r).take ((shL b ++ 41 :: r).length - r4.length)) = true ∧ 1 ≤ valL ((shL b ++ 41 :: r).take ((shL b ++ 41 :: r).length - r4.length))) then none else if r4.head? = some 41 then some r4.tail else none) = _
    rw [ihb]
    show (if dv (tl g) = true ∧ ¬ (numT ((shL b ++ 41 :: r).take ((shL b ++ 41 :: r).length - (41 :: r).length)) = true ∧ 1 ≤ valL ((shL b ++ 41 :: r).take ((shL b ++ 41 :: r).length - (41 :: r).length))) then none else if (41 :: r).head? = some 41 then some (41 :: r).tail else none) = _
    rw [ht, if_neg, if_pos (show (41 :: r).head? = some 41 from rfl)]
    · rfl
    · rintro ⟨h1, h2⟩
      obtain ⟨j, rfl, hj⟩ := pos_of (hp h1)
      obtain ⟨l, k1, rfl⟩ := hb
      apply h2
      have e : shL (.num (valL l)) = l := num_text k1
      rw [e]
      exact ⟨k1, hj⟩
theorem tw_split (p : Nat → Bool) (l : List Nat) : l = l.takeWhile p ++ l.dropWhile p := (List.takeWhile_append_dropWhile).symm
theorem enl_inv : ∀ (n : Nat) (l r : List Nat), enl n l = some r → ∃ e, Good e ∧ e.dep < n ∧ l = shL e ++ r
  | 0, l, r, h => by cases h
  | n + 1, l, r, h => by
    unfold enl at h
    split at h
    · rename_i hh
      cases h
      exact ⟨.pas, trivial, Nat.succ_pos _, head_cons hh⟩
    split at h
    · rename_i hh
      obtain ⟨e, h1, h2, h3⟩ := enl_inv n _ _ h
      exact ⟨.inv e, h1, Nat.succ_lt_succ h2, by rw [head_cons hh, h3]; rfl⟩
    split at h
    · split at h
      · rename_i hne
        split at h
        · rename_i hl
          cases h
          refine ⟨.nam (S (l.takeWhile isLet)), ?_, Nat.succ_pos _, tw_split isLet l⟩
          show nameL (l.takeWhile isLet) = true
          unfold nameL
          have : 1 ≤ (l.takeWhile isLet).length := List.length_pos_iff.mpr hne
          have ha : (l.takeWhile isLet).all isLet = true := List.all_takeWhile
          rw [ha]
          simp; omega
        · cases h
      · split at h
        · rename_i hn
          cases h
          refine ⟨.num (valL (l.takeWhile isNum1)), ⟨_, hn, rfl⟩, Nat.succ_pos _, ?_⟩
          show l = tl (Str.ofString (toString (valL (l.takeWhile isNum1)))) ++ _
          rw [num_text hn]
          exact tw_split isNum1 l
        · cases h
    · rename_i h40
      have h40 : l.head? = some 40 := Decidable.not_not.mp h40
      split at h
      · cases h
      · rename_i r1 hr1
        obtain ⟨a, a1, a2, a3⟩ := enl_inv n _ _ hr1
        split at h
        · cases h
        rename_i h32
        have h32 : r1.head? = some 32 := Decidable.not_not.mp h32
        split at h
        · cases h
        rename_i hop
        have hg : r1.tail.takeWhile not32 ∈ opsL := Decidable.not_not.mp fun e => hop (.inl e)
        have h32' : (r1.tail.dropWhile not32).head? = some 32 := Decidable.not_not.mp fun e => hop (.inr e)
        split at h
        · cases h
        rename_i r4 hr4
        obtain ⟨b, b1, b2, b3⟩ := enl_inv n _ _ hr4
        split at h
        · cases h
        rename_i hd
        split at h
        · rename_i h41
          cases h
          refine ⟨.bin (S (r1.tail.takeWhile not32)) a b, ⟨hg, a1, b1, fun hdv => ?_⟩, by show max a.dep b.dep + 1 < n + 1; omega, ?_⟩
          · have hd' := Decidable.not_not.mp fun e => hd ⟨hdv, e⟩
            have ht : (r1.tail.dropWhile not32).tail.take ((r1.tail.dropWhile not32).tail.length - r4.length) = shL b := by
              rw [b3, List.length_append, Nat.add_sub_cancel, List.take_left]
            rw [ht] at hd'
            have hb2 := vin_sh b (b.dep + 1) b1 (Nat.lt_succ_self _)
            obtain ⟨c, hc, hc2⟩ := num_ne hd'.1
            unfold vin at hb2
            rw [if_neg (fun e => by rw [e] at hd'; exact absurd hd'.1 (by decide)), if_neg (by rw [name_not hc (by omega)]; decide), if_pos hd'.1] at hb2
            rw [← Option.some.inj hb2]
            exact decide_eq_true hd'.2
          · have k1 := head_cons h40
            have k2 := head_cons h32
            have k3 := tw_split not32 r1.tail
            have k4 := head_cons h32'
            have k5 := head_cons h41
            have k6 : l = 40 :: (shL a ++ 32 :: (r1.tail.takeWhile not32 ++ 32 :: (shL b ++ 41 :: r4.tail))) := by
              rw [← k5, ← b3, ← k4, ← k3, ← k2, ← a3, ← k1]
            rw [k6]
            simp [shL]
        · cases h
/-- both readings are one -/
theorem law_iff (n : Nat) (l : List Nat) : (∃ e, vin n l = some e ∧ shL e = l) ↔ enl n l = some [] := by
  constructor
  · rintro ⟨e, h1, h2⟩
    obtain ⟨g, d⟩ := vin_good n l e h1
    have := enl_sh e n [] g d nofun
    rwa [List.append_nil, h2] at this
  · intro h
    obtain ⟨e, h1, h2, h3⟩ := enl_inv n l [] h
    rw [List.append_nil] at h3
    exact ⟨e, by rw [h3]; exact vin_sh e n h1 h2, h3.symm⟩
end LW

set_option Elab.async false
set_option linter.all false
set_option maxRecDepth 100000
set_option maxHeartbeats 400000
noncomputable section
namespace LW
open PySem PySem.Spec PyProof.Rows L2 DL
def valT (a : Str) (x y : D) : DL.Tree := [([], .ins "Value" [("sign", .d (.str a)), ("first", .d x), ("second", .d y)])]
def valD (a : Str) (x y : D) : D := .obj "Value" [("sign", .str a), ("first", x), ("second", y)]
theorem fz_val (a : Str) (x y : D) : fz (valT a x y) = some (valD a x y) := rfl
theorem stl_val (a : Str) (x y : D) (s : Sto) : settle (.f (valT a x y)) s = .ok (.d (valD a x y)) s := stl_f _ _ _ rfl
theorem init_Value (a : Str) (x y : D) (s : Sto) : m_Value___init__ [.m s.length [], .d (.str a), .d x, .d y] (s ++ [some [([], .ins "Value" [])]]) = .ok (.d .non) (s ++ [some (valT a x y)]) := by
  have e1 : ∀ (env : En) (v : D) (i : Nat) (t : Sto), env[i]? = some (some (.d v)) → stl (eVar i) env t = .ok (.d v) t := fun env v i t h => by rw [ev_stl, ev_var _ _ _ _ h]; rfl
  have h1 := ev_put_end ["Value"] "sign" 0 (eVar 1) [some (.m s.length []), some (.d (.str a)), some (.d x), some (.d y)] s "Value" [] (.str a) rfl (e1 _ _ _ _ rfl) (by decide) (by decide)
  have h2 := ev_put_end ["Value"] "first" 0 (eVar 2) [some (.m s.length []), some (.d (.str a)), some (.d x), some (.d y)] s "Value" [("sign", .d (.str a))] x rfl (e1 _ _ _ _ rfl) (by decide) (show 1 < 1000 by decide)
  have h3 := ev_put_end ["Value"] "second" 0 (eVar 3) [some (.m s.length []), some (.d (.str a)), some (.d x), some (.d y)] s "Value" [("sign", .d (.str a)), ("first", .d x)] y rfl (e1 _ _ _ _ rfl) (by decide) (show 2 < 1000 by decide)
  unfold m_Value___init__
  rw [ev_run0]
  show (((((sPut _ _ _ _ [some (.m s.length []), some (.d (.str a)), some (.d x), some (.d y)] _).sq _)).fin _)) = _
  rw [h1, sq_nx]
  show (((((sPut _ _ _ _ _ (s ++ [some [([], .ins "Value" [("sign", .d (.str a))])]])).sq _)).fin _)) = _
  rw [h2, sq_nx]
  show (((((sPut _ _ _ _ _ (s ++ [some [([], .ins "Value" [("sign", .d (.str a)), ("first", .d x)])]])).sq _)).fin _)) = _
  rw [h3, sq_nx, ev_nil, fin_nx, List.take_of_length_le (by simp)]
  rfl
theorem mk_Value (a : Str) (x y : D) (s : Sto) : mkI "Value" m_Value___init__ s.length [.d (.str a), .d x, .d y] s = .ok (.f (valT a x y)) s := mkI_of _ _ _ _ _ _ (init_Value a x y s) rfl
theorem fn_number (n : D) (s : Sto) : m_number [.d n] s = .ok (.f (valT "number" n .non)) s := by
  simp [m_number, b_number, mk_Value]
theorem fn_passed (s : Sto) : m_passed [] s = .ok (.f (valT "passed" .non .non)) s := by
  simp [m_passed, b_passed, mk_Value]
theorem fn_invert (n : D) (s : Sto) : m_Value___invert__ [.d n] s = .ok (.f (valT "~" n .non)) s := by
  simp [m_Value___invert__, b_Value___invert__, mk_Value]
theorem fn_value_of (a : Str) (x y : D) (s : Sto) : m_value_of [.d (valD a x y)] s = .ok (.d (valD a x y)) s := by
  have h : ∀ tb, isiV [("Value", true), ("Step", false)] tb (.d (valD a x y)) s = .ok (.d (.bl true)) s := fun tb => isi_obj _ _ _ _ _ _ (by rfl)
  simp [m_value_of, b_value_of, h]
theorem fn_check_divisor (k : Int) (s : Sto) (h : 1 ≤ k) : m_check_divisor [.d (.int k)] s = .ok (.d .non) s := by
  have : ¬ k < 1 := by omega
  simp [m_check_divisor, b_check_divisor, this]
theorem fn_add (a : Str) (x y : D) (b : Str) (x' y' : D) (s : Sto) : m_Value___add__ [.d (valD a x y), .d (valD b x' y')] s = .ok (.f (valT "+" (valD a x y) (valD b x' y'))) s := by
  simp [m_Value___add__, b_Value___add__, mk_Value, fn_value_of]
/-! ## values as trees -/
def Ex.val : Ex → D
  | .pas => valD "passed" .non .non
  | .nam t => valD "cell" (.str t) .non
  | .num i => valD "number" (.int i) .non
  | .inv a => valD "~" a.val .non
  | .bin g a b => valD g a.val b.val
def Ex.ok : Ex → Prop
  | .num i => i.natAbs.log2 < 1920
  | .inv a => a.ok
  | .bin g a b => g ∈ ops ∧ a.ok ∧ b.ok
  | _ => True
theorem fld_sign (g : Str) (x y : D) (s : Sto) : fldV ["Value", "Step"] "sign" (.d (valD g x y)) s = .ok (.d (.str g)) s := fld_of _ _ _ _ _ _ (by decide) rfl
theorem fld_first (g : Str) (x y : D) (s : Sto) : fldV ["Value"] "first" (.d (valD g x y)) s = .ok (.d x) s := fld_of _ _ _ _ _ _ (by decide) rfl
theorem fld_second (g : Str) (x y : D) (s : Sto) : fldV ["Value"] "second" (.d (valD g x y)) s = .ok (.d y) s := fld_of _ _ _ _ _ _ (by decide) rfl
theorem ne_ops {g : Str} (h : g ∈ ops) : g ≠ "cell" ∧ g ≠ "passed" ∧ g ≠ "number" ∧ g ≠ "~" := by
  revert g; decide
theorem sg1 : ¬ ((Str.ofString "passed") = (Str.ofString "cell")) := by decide
theorem sg2 : ¬ ((Str.ofString "number") = (Str.ofString "cell")) := by decide
theorem sg3 : ¬ ((Str.ofString "number") = (Str.ofString "passed")) := by decide
theorem sg4 : ¬ ((Str.ofString "~") = (Str.ofString "cell")) := by decide
theorem sg5 : ¬ ((Str.ofString "~") = (Str.ofString "passed")) := by decide
theorem sg6 : ¬ ((Str.ofString "~") = (Str.ofString "number")) := by decide
theorem show_spec : ∀ (a : Ex) (n : Nat) (s : Sto), a.dep < n → a.ok → a.show.length ≤ sizeLine → m_show_value n [.d a.val] s = .ok (.d (.str a.show)) s
  | .pas, n + 1, s, _, _, _ => by
    simp [m_show_value, b_show_value, Ex.val, fld_sign, fld_first, fld_second, sg1, Ex.show]
  | .nam t, n + 1, s, _, _, _ => by
    simp [m_show_value, b_show_value, Ex.val, fld_sign, fld_first, fld_second, Ex.show]
  | .num i, n + 1, s, _, h, _ => by
    have h' : i.natAbs.log2 < 1920 := h
    simp [m_show_value, b_show_value, Ex.val, fld_sign, fld_first, fld_second, sg2, sg3, Ex.show, h']
  | .inv a, n + 1, s, hd, h, hl => by
    have hl' : (Str.ofString "~" ++ a.show).length ≤ sizeLine := hl
    rw [len_app] at hl'
    have ih := fun s => show_spec a n s (by simp only [Ex.dep] at hd; omega) h (by omega)
    simp [m_show_value, b_show_value, Ex.val, fld_sign, fld_first, fld_second, sg4, sg5, sg6, Ex.show, ih, hl']
  | .bin g a b, n + 1, s, hd, h, hl => by
    obtain ⟨h0, h1, h2⟩ := h
    obtain ⟨g1, g2, g3, g4⟩ := ne_ops h0
    have hl' : (Str.empty ++ "(" ++ a.show ++ " " ++ g ++ " " ++ b.show ++ ")").length ≤ sizeLine := hl
    simp only [len_app] at hl'
    have iha := fun s => show_spec a n s (by simp only [Ex.dep] at hd; omega) h1 (by omega)
    have ihb := fun s => show_spec b n s (by simp only [Ex.dep] at hd; omega) h2 (by omega)
    have e1 : a.show.length ≤ sizeLine := by omega
    have e2 : b.show.length ≤ sizeLine := by omega
    have e3 : g.length ≤ sizeLine := by omega
    have k1 : (Str.empty ++ Str.ofString "(").length ≤ sizeLine := by simp only [len_app]; omega
    have k2 : (Str.empty ++ Str.ofString "(" ++ a.show).length ≤ sizeLine := by simp only [len_app]; omega
    have k3 : (Str.empty ++ Str.ofString "(" ++ a.show ++ Str.ofString " ").length ≤ sizeLine := by simp only [len_app]; omega
    have k4 : (Str.empty ++ Str.ofString "(" ++ a.show ++ Str.ofString " " ++ g).length ≤ sizeLine := by simp only [len_app]; omega
    have k5 : (Str.empty ++ Str.ofString "(" ++ a.show ++ Str.ofString " " ++ g ++ Str.ofString " ").length ≤ sizeLine := by simp only [len_app]; omega
    have k6 : (Str.empty ++ Str.ofString "(" ++ a.show ++ Str.ofString " " ++ g ++ Str.ofString " " ++ b.show).length ≤ sizeLine := by simp only [len_app]; omega
    have k7 : (Str.empty ++ Str.ofString "(" ++ a.show ++ Str.ofString " " ++ g ++ Str.ofString " " ++ b.show ++ Str.ofString ")").length ≤ sizeLine := by simp only [len_app]; omega
    simp [m_show_value, b_show_value, Ex.val, fld_sign, fld_first, fld_second, g1, g2, g3, g4, Ex.show, iha, ihb, e1, e2, e3, k1, k2, k3, k4, k5, k6, k7]
end LW
end

set_option Elab.async false
set_option linter.all false
set_option maxRecDepth 100000
set_option maxHeartbeats 1000000
noncomputable section
namespace LW
open PySem PySem.Spec PyProof.Rows L2 DL
/-! # the pool -/
theorem ix_m {s : Sto} {l : Nat} {p : List Str} {xs : List D} {i : Int} {d : D} (h : res s l p = some (.lst xs)) (hi : atI xs i = some d) : ixSeq (.m l p) (.d (.int i)) s = .ok (.d d) s := by
  have e : lstOf s (.m l p) = some xs := by
    show (match res s l p with | some (O.lst xs) => some xs | _ => none) = _
    rw [h]
  show (match lstOf s (.m l p) with | some xs => (match atI xs i with | some d => Res.ok (Val.d d) s | none => .bad) | none => .bad) = _
  rw [e]
  show (match atI xs i with | some d => Res.ok (Val.d d) s | none => .bad) = _
  rw [hi]
theorem set_m {s : Sto} {l : Nat} {p : List Str} {xs : List D} {i : Int} {j : Nat} {d : D} (h : res s l p = some (.lst xs)) (hi : ixN xs.length i = some j) : setLst (.m l p) (.d (.int i)) d s = some (upS s l p (.lst (xs.set j d))) := by
  unfold setLst
  simp [h, hi]
def stK (w : Val → Val → D → Sto → Option Sto) (env : En) (o i : Val) (x : D) (s : Sto) : SR := match w o i x s with
  | some s4 => .ok .nx env s4
  | none => .bad
theorem ev_store (w : Val → Val → D → Sto → Option Sto) (mo mi mv : En → M Val) (env : En) (s : Sto) : sStore w mo mi mv env s = ((mv env s).bnd settle).sb env fun v s1 => v.cD (fun x => ((mo env s1).bnd settle).sb env fun o s2 => ((mi env s2).bnd settle).sb env fun i s3 => stK w env o i x s3) .bad := rfl
theorem stK_of {w : Val → Val → D → Sto → Option Sto} {env : En} {o i : Val} {x : D} {s s' : Sto} (h : w o i x s = some s') : stK w env o i x s = .ok .nx env s' := by
  unfold stK; rw [h]
theorem int_int (i : Int) (s : Sto) : intG [.d (.int i)] s = .ok (.d (.int i)) s := rfl
theorem at0 (a b c : D) : atI [a, b, c] 0 = some a := rfl
theorem at1 (a b c : D) : atI [a, b, c] 1 = some b := rfl
theorem at2 (a b c : D) : atI [a, b, c] 2 = some c := rfl
def M1 : Int := 162259276829213363391578010288127
def M2 : Int := 170141183460469231731687303715884105727
def mixA (b c : Int) : Int := (b + 15485863 * c) ^ 3 % M1
def mixB (m c : Int) : Int := (m + 32452843 * c) ^ 3 % M2
theorem take_ups (s : Sto) (l : Nat) (p : List Str) (o : O) : (upS s l p o).take s.length = upS s l p o := List.take_of_length_le (by rw [upS_length]; exact Nat.le_refl _)
theorem pow3 (i : Int) (s : Sto) (h : i.natAbs < 2 ^ 1000) : powV (.d (.int i)) (.d (.int 3)) s = .ok (.d (.int (i ^ 3))) s := by
  have hb : Builtin.Int.intBits i ≤ 1000 := by
    unfold Builtin.Int.intBits
    split
    · omega
    · rename_i h0
      have h1 : i.natAbs ≠ 0 := by intro z; apply h0; simp; omega
      have := (Nat.log2_lt h1).mpr h
      omega
  exact int2_eq (C := cPow) ⟨by decide, by omega⟩
theorem mul_int (i j : Int) (s : Sto) (h : IntMulOk i j) : mulV (.d (.int i)) (.d (.int j)) s = .ok (.d (.int (i * j))) s := if_pos h
theorem draw_a {s : Sto} {l : Nat} {p : List Str} {a b c k : Int} (h : res s l p = some (.lst [.int a, .int b, .int c])) (ha : 0 < a) (hk : 0 < k) (hk2 : k.natAbs.log2 < 9000) :
    m__law_draw [.m l p, .d (.int k)] s = .ok (.d (.int (a % k))) (upS s l p (.lst [.int (a / k), .int b, .int c])) := by
  have st : ∀ env x, stK setLst env (.m l p) (.d (.int 0)) x s = .ok .nx env (upS s l p (.lst [x, .int b, .int c])) := fun env x => stK_of (by rw [set_m (j := 0) h rfl]; rfl)
  simp [m__law_draw, b__law_draw, ix_m h (at0 _ _ _), ha, int_int, v_mod _ _ _ hk, v_fdiv _ _ _ ⟨hk, hk2⟩, ev_store, st, take_ups]
theorem draw_b {s : Sto} {l : Nat} {p : List Str} {a b c k : Int} (h : res s l p = some (.lst [.int a, .int b, .int c])) (ha : ¬ 0 < a) (hk : 0 < k) (hb : b.natAbs < 2 ^ 100) (hc : c.natAbs < 2 ^ 100) :
    m__law_draw [.m l p, .d (.int k)] s = .ok (.d (.int (mixB (mixA b (c + 1)) (c + 1) / 1048576 % k))) (upS s l p (.lst [.int a, .int b, .int (c + 1)])) := by
  have st : ∀ env x, stK setLst env (.m l p) (.d (.int 2)) x s = .ok .nx env (upS s l p (.lst [.int a, .int b, x])) := fun env x => stK_of (by rw [set_m (j := 2) h rfl]; rfl)
  have h2 : res (upS s l p (.lst [.int a, .int b, .int (c + 1)])) l p = some (.lst [.int a, .int b, .int (c + 1)]) := by rw [res_upS h, if_pos ⟨rfl, rfl⟩]
  have q1 : (b + 15485863 * (c + 1)).natAbs < 2 ^ 1000 := by
    have : (2 : Nat) ^ 100 * 100000000 < 2 ^ 1000 := by decide
    omega
  have q2 : (mixA b (c + 1) + 32452843 * (c + 1)).natAbs < 2 ^ 1000 := by
    have : (2 : Nat) ^ 200 * 100000000 < 2 ^ 1000 := by decide
    have h0 : 0 ≤ mixA b (c + 1) := Int.emod_nonneg _ (by decide)
    have h1 : mixA b (c + 1) < M1 := Int.emod_lt_of_pos _ (by decide)
    have h3 : M1 < 2 ^ 200 := by decide
    omega
  have e1 : (b + 15485863 * (c + 1)) ^ 3 % 162259276829213363391578010288127 = mixA b (c + 1) := rfl
  have e2 : (mixA b (c + 1) + 32452843 * (c + 1)) ^ 3 % 170141183460469231731687303715884105727 = mixB (mixA b (c + 1)) (c + 1) := rfl
  have w1 : ∀ i s, modV (.d (.int i)) (.d (.int 162259276829213363391578010288127)) s = .ok (.d (.int (i % 162259276829213363391578010288127))) s := fun i s => DL.v_mod _ _ _ (by decide)
  have w2 : ∀ i s, modV (.d (.int i)) (.d (.int 170141183460469231731687303715884105727)) s = .ok (.d (.int (i % 170141183460469231731687303715884105727))) s := fun i s => DL.v_mod _ _ _ (by decide)
  have w3 : ∀ i s, fdivV (.d (.int i)) (.d (.int 1048576)) s = .ok (.d (.int (i / 1048576))) s := fun i s => DL.v_fdiv _ _ _ (by decide)
  have z1 : IntMulOk 15485863 (c + 1) := .of_left (by decide)
  have z2 : IntMulOk 32452843 (c + 1) := .of_left (by decide)
  simp [m__law_draw, b__law_draw, ix_m h (at0 _ _ _), ix_m h (at2 _ _ _), ix_m h2 (at0 _ _ _), ix_m h2 (at1 _ _ _), ix_m h2 (at2 _ _ _), ha, int_int, DL.v_mod _ _ _ hk, DL.v_mod, w1, w2, w3, ev_store, st, take_ups, mul_int _ _ _ z1, mul_int _ _ _ z2, pow3 _ _ q1, pow3 _ _ q2, e1, e2]
theorem upS_other (s : Sto) (l l' : Nat) (p : List Str) (o : O) (h : l' ≠ l) : (upS s l p o)[l']? = s[l']? := by
  unfold upS
  split
  · rw [List.getElem?_set_ne (Ne.symm h)]
  · rfl
/-- the store but for one root -/
structure Oth (s s' : Sto) (l : Nat) : Prop where
  len : s'.length = s.length
  at_ : ∀ l', l' ≠ l → s'[l']? = s[l']?
theorem Oth.refl (s : Sto) (l : Nat) : Oth s s l := ⟨rfl, fun _ _ => rfl⟩
theorem Oth.trans {a b c : Sto} {l : Nat} (x : Oth a b l) (y : Oth b c l) : Oth a c l := ⟨y.len.trans x.len, fun l' h => (y.at_ l' h).trans (x.at_ l' h)⟩
theorem Oth.up (s : Sto) (l : Nat) (p : List Str) (o : O) : Oth s (upS s l p o) l := ⟨upS_length _ _ _ _, fun l' h => upS_other _ _ _ _ _ h⟩
theorem Oth.take {a b : Sto} {l : Nat} (x : Oth a b l) : b.take a.length = b := List.take_of_length_le (by rw [x.len]; exact Nat.le_refl _)
theorem Oth.res {a b : Sto} {l l' : Nat} (x : Oth a b l) (h : l' ≠ l) (p : List Str) : DL.res b l' p = DL.res a l' p := by
  unfold DL.res; rw [x.at_ l' h]
/-- a pool of at most n mixed numbers stands at root l -/
def PoolAt (s : Sto) (l n : Nat) : Prop := ∃ a b c : Int, res s l [] = some (.lst [.int a, .int b, .int c]) ∧ b.natAbs < 2 ^ 100 ∧ c.natAbs ≤ n
theorem PoolAt.mono {s : Sto} {l n m : Nat} (h : PoolAt s l n) (k : n ≤ m) : PoolAt s l m := by
  obtain ⟨a, b, c, h1, h2, h3⟩ := h
  exact ⟨a, b, c, h1, h2, by omega⟩
theorem draw {s : Sto} {l n : Nat} {k : Int} (h : PoolAt s l n) (hn : n < 2 ^ 90) (hk : 0 < k) (hk2 : k.natAbs.log2 < 9000) :
    ∃ d s', m__law_draw [.m l [], .d (.int k)] s = .ok (.d (.int d)) s' ∧ 0 ≤ d ∧ d < k ∧ PoolAt s' l (n + 1) ∧ Oth s s' l := by
  obtain ⟨a, b, c, h1, h2, h3⟩ := h
  by_cases ha : 0 < a
  · refine ⟨_, _, draw_a h1 ha hk hk2, Int.emod_nonneg _ (by omega), Int.emod_lt_of_pos _ hk, ⟨_, b, c, by rw [res_upS h1, if_pos ⟨rfl, rfl⟩], h2, by omega⟩, Oth.up _ _ _ _⟩
  · refine ⟨_, _, draw_b h1 ha hk h2 (by omega), Int.emod_nonneg _ (by omega), Int.emod_lt_of_pos _ hk, ⟨_, b, c + 1, by rw [res_upS h1, if_pos ⟨rfl, rfl⟩], h2, by omega⟩, Oth.up _ _ _ _⟩
end LW
end

set_option Elab.async false
set_option linter.all false
set_option maxRecDepth 100000
set_option maxHeartbeats 1000000
noncomputable section
namespace LW
open PySem PySem.Spec PyProof.Rows L2 DL
/-! # drawn plans -/
def dr (m : En → M Val) : En → M Val := eCall m__law_draw (rCons (eVar 0) (rCons m rNil))
theorem dr_of {env : En} {s : Sto} {l n : Nat} {k : Int} {m : En → M Val} (he : env[0]? = some (some (.m l []))) (hm : m env s = .ok (.d (.int k)) s) (h : PoolAt s l n) (hn : n < 2 ^ 90) (hk : 0 < k) (hk2 : k.natAbs.log2 < 9000) :
    ∃ d s', dr m env s = .ok (.d (.int d)) s' ∧ 0 ≤ d ∧ d < k ∧ PoolAt s' l (n + 1) ∧ Oth s s' l := by
  obtain ⟨d, s', e, h1, h2, h3, h4⟩ := draw h hn hk hk2
  refine ⟨d, s', ?_, h1, h2, h3, h4⟩
  simp [dr, ev_var _ _ _ _ he, hm, e, h4.take]
def wInt : En → M Val := eTup (vCons (eC (.str "n")) (vCons (eOp2 ixSeq (eLst (vCons (eOp2 subV (dr (eC (.int 9))) (eC (.int 4))) (vCons (eOp2 subV (dr (eC (.int 2001))) (eC (.int 1000))) (vNil)))) (eBi intG (vCons (eOp2 eqV (dr (eC (.int 6))) (eC (.int 0))) (vNil)))) (vNil)))
theorem wInt_of {env : En} {s : Sto} {l n : Nat} (he : env[0]? = some (some (.m l []))) (h : PoolAt s l n) (hn : n < 2 ^ 80) :
    ∃ i s', wInt env s = .ok (.d (.tup [.str "n", .int i])) s' ∧ i.natAbs ≤ 1000 ∧ PoolAt s' l (n + 3) ∧ Oth s s' l := by
  obtain ⟨d1, s1, e1, a1, b1, p1, o1⟩ := dr_of (m := eC (.int 9)) he rfl h (by omega) (by decide) (by decide)
  obtain ⟨d2, s2, e2, a2, b2, p2, o2⟩ := dr_of (m := eC (.int 2001)) he rfl p1 (by omega) (by decide) (by decide)
  obtain ⟨d3, s3, e3, a3, b3, p3, o3⟩ := dr_of (m := eC (.int 6)) he rfl p2 (by omega) (by decide) (by decide)
  have L : mkLst [.d (.int (d1 - 4)), .d (.int (d2 - 1000))] s2 = .ok (.f [([], .lst [.int (d1 - 4), .int (d2 - 1000)])]) s2 := mkL_of [.int (d1 - 4), .int (d2 - 1000)] s2 (show 2 ≤ sizeLine by decide)
  have B : ∀ (b : Bool) s, intG [.d (.bl b)] s = .ok (.d (.int (if b then 1 else 0))) s := fun _ _ => rfl
  have I0 : ixSeq (.d (.lst [.int (d1 - 4), .int (d2 - 1000)])) (.d (.int 0)) s3 = .ok (.d (.int (d1 - 4))) s3 := rfl
  have I1 : ixSeq (.d (.lst [.int (d1 - 4), .int (d2 - 1000)])) (.d (.int 1)) s3 = .ok (.d (.int (d2 - 1000))) s3 := rfl
  by_cases z : d3 = 0
  · refine ⟨d2 - 1000, s3, ?_, by omega, p3, (o1.trans o2).trans o3⟩
    simp [wInt, e1, e2, e3, L, B, I1, z]
  · refine ⟨d1 - 4, s3, ?_, by omega, p3, (o1.trans o2).trans o3⟩
    simp [wInt, e1, e2, e3, L, B, I0, z]
end LW
end

set_option Elab.async false
set_option linter.all false
set_option maxRecDepth 100000
set_option maxHeartbeats 1000000
noncomputable section
namespace LW
open PySem PySem.Spec PyProof.Rows L2 DL
def nms : List Str := ["a", "mod", "when"]
def nmsD : D := .lst [.str "a", .str "mod", .str "when"]
theorem nms_ne (s : Sto) : eqV (.d nmsD) (.d (.lst [])) s = .ok (.d (.bl false)) s := by
  have : eqD nmsD (.lst []) = some false := by kernel_rfl
  show asD2 _ _ _ s = _
  unfold asD2
  show (match (eqD nmsD (.lst [])).map D.bl with | some d => Res.ok (Val.d d) s | none => .bad) = _
  rw [this]; rfl
inductive Pl : Nat → D → Ex → Prop
  | n (k : Nat) (i : Int) (h : i.natAbs ≤ 1000) : Pl k (.tup [.str "n", .int i]) (.num i)
  | c (k : Nat) (t : Str) (h : t ∈ nms) : Pl k (.tup [.str "c", .str t]) (.nam t)
  | g (k : Nat) : Pl k (.tup [.str "g"]) .pas
  | inv (k : Nat) (p : D) (e : Ex) (h : Pl k p e) : Pl (k + 1) (.tup [.str "~", p]) (.inv e)
  | div (k : Nat) (g : Str) (p : D) (e : Ex) (j : Int) (hg : g = "//" ∨ g = "mod") (h : Pl k p e) (h1 : 1 ≤ j) (h2 : j ≤ 1000) : Pl (k + 1) (.tup [.str g, p, .int j]) (.bin g e (.num j))
  | bin (k : Nat) (g : Str) (p q : D) (e f : Ex) (hg : g ∈ (["+", "-", "*", "&", "|", "=", "<"] : List Str)) (h1 : Pl k p e) (h2 : Pl k q f) : Pl (k + 1) (.tup [.str g, p, q]) (.bin g e f)
def dcost : Nat → Nat
  | 0 => 5
  | k + 1 => 2 * dcost k + 10
end LW
end

set_option Elab.async false
set_option linter.all false
set_option maxRecDepth 100000
set_option maxHeartbeats 1000000
noncomputable section
namespace LW
open PySem PySem.Spec PyProof.Rows L2 DL
theorem worth_eq (n : Nat) (args : List Val) : m__law_worth (n + 1) args = runF 0 6 (b__law_worth (m__law_worth n)) args := rfl
theorem lenN (s : Sto) : lenG [.d nmsD] s = .ok (.d (.int 3)) s := rfl
theorem ixN3 {d : Int} (h0 : 0 ≤ d) (h1 : d < 3) (s : Sto) : ∃ t ∈ nms, ixSeq (.d nmsD) (.d (.int d)) s = .ok (.d (.str t)) s := by
  have : d = 0 ∨ d = 1 ∨ d = 2 := by omega
  rcases this with rfl | rfl | rfl
  · exact ⟨"a", by decide, rfl⟩
  · exact ⟨"mod", by decide, rfl⟩
  · exact ⟨"when", by decide, rfl⟩
theorem dsF (f : Str) (s : Sto) : eqV (.d (.int 1)) (.d (.int 1)) s = .ok (.d (.bl true)) s := by simp
theorem worth0 (m : Nat) {s : Sto} {l n : Nat} (h : PoolAt s l n) (hn : n < 2 ^ 70) :
    ∃ p e s', m__law_worth (m + 1) [.m l [], .d nmsD, .d (.int 0)] s = .ok (.d p) s' ∧ Pl 0 p e ∧ PoolAt s' l (n + 5) ∧ Oth s s' l := by
  obtain ⟨d, s1, e1, a1, b1, p1, o1⟩ := draw (k := 3) h (by omega) (by decide) (by decide)
  have hd : d = 0 ∨ d = 1 ∨ d = 2 := by omega
  rcases hd with rfl | rfl | rfl
  · obtain ⟨d1, s2, f1, c1, g1, p2, o2⟩ := draw (k := 9) p1 (by omega) (by decide) (by decide)
    obtain ⟨d2, s3, f2, c2, g2, p3, o3⟩ := draw (k := 2001) p2 (by omega) (by decide) (by decide)
    obtain ⟨d3, s4, f3, c3, g3, p4, o4⟩ := draw (k := 6) p3 (by omega) (by decide) (by decide)
    have L : mkLst [.d (.int (d1 - 4)), .d (.int (d2 - 1000))] s3 = .ok (.f [([], .lst [.int (d1 - 4), .int (d2 - 1000)])]) s3 := mkL_of [.int (d1 - 4), .int (d2 - 1000)] s3 (show 2 ≤ sizeLine by decide)
    have B : ∀ (b : Bool) s, intG [.d (.bl b)] s = .ok (.d (.int (if b then 1 else 0))) s := fun _ _ => rfl
    have I0 : ixSeq (.d (.lst [.int (d1 - 4), .int (d2 - 1000)])) (.d (.int 0)) s4 = .ok (.d (.int (d1 - 4))) s4 := rfl
    have I1 : ixSeq (.d (.lst [.int (d1 - 4), .int (d2 - 1000)])) (.d (.int 1)) s4 = .ok (.d (.int (d2 - 1000))) s4 := rfl
    have o := ((o1.trans o2).trans o3).trans o4
    by_cases z : d3 = 0
    · refine ⟨_, _, s4, ?_, .n 0 (d2 - 1000) (by omega), p4.mono (by omega), o⟩
      simp [worth_eq, b__law_worth, e1, o1.take, f1, f2, f3, o2.take, o3.take, o4.take, o.take, L, B, I1, z]
    · refine ⟨_, _, s4, ?_, .n 0 (d1 - 4) (by omega), p4.mono (by omega), o⟩
      simp [worth_eq, b__law_worth, e1, o1.take, f1, f2, f3, o2.take, o3.take, o4.take, o.take, L, B, I0, z]
  · obtain ⟨d2, s2, e2, a2, b2, p2, o2⟩ := draw (k := 3) p1 (by omega) (by decide) (by decide)
    obtain ⟨t, ht, e3⟩ := ixN3 a2 b2 s2
    refine ⟨_, _, s2, ?_, .c 0 t ht, p2.mono (by omega), o1.trans o2⟩
    simp [worth_eq, b__law_worth, e1, o1.take, o2.take, (o1.trans o2).take, nms_ne, e2, lenN, e3]
  · refine ⟨_, _, s1, ?_, .g 0, p1.mono (by omega), o1⟩
    simp [worth_eq, b__law_worth, e1, o1.take]
end LW
end

set_option Elab.async false
set_option linter.all false
set_option maxRecDepth 100000
set_option maxHeartbeats 1000000
noncomputable section
namespace LW
open PySem PySem.Spec PyProof.Rows L2 DL
theorem in45 (d : Int) (s : Sto) : oAlt (inSeq false) (inStr false) (.d (.int d)) (.d (.tup [.int 4, .int 5])) s = .ok (.d (.bl (decide (4 = d) || decide (5 = d)))) s := by
  rw [in_tup false (.int d) [.int 4, .int 5] s rfl rfl]
  simp [eqFl]
/-- the step of the depth: the case of the wave -/
theorem worthS3 (m k : Nat) {s s1 s2 : Sto} {l n : Nat} {p : D} (e1 : m__law_draw [.m l [], .d (.int 13)] s = .ok (.d (.int 3)) s1) (o1 : Oth s s1 l)
    (e2 : m__law_worth m [.m l [], .d nmsD, .d (.int k)] s1 = .ok (.d p) s2) (o2 : Oth s1 s2 l) :
    m__law_worth (m + 1) [.m l [], .d nmsD, .d (.int (k + 1))] s = .ok (.d (.tup [.str "~", p])) s2 := by
  have hk : (0 : Int) < k + 1 := by omega
  have hk2 : (k : Int) + 1 - 1 = k := by omega
  simp [worth_eq, b__law_worth, e1, o1.take, o2.take, (o1.trans o2).take, hk, hk2, e2]
/-- the case of a sign between two parts -/
def s7 : List Str := ["+", "-", "*", "&", "|", "=", "<"]
def s7D : List D := [.str "+", .str "-", .str "*", .str "&", .str "|", .str "=", .str "<"]
theorem mk7 (s : Sto) : mkLst [.d (.str "+"), .d (.str "-"), .d (.str "*"), .d (.str "&"), .d (.str "|"), .d (.str "="), .d (.str "<")] s = .ok (.f [([], .lst s7D)]) s := mkL_of s7D s (show 7 ≤ sizeLine by decide)
theorem ix7 {d : Int} (h0 : 6 ≤ d) (h1 : d < 13) (s : Sto) : ∃ t ∈ s7, ixSeq (.d (.lst s7D)) (.d (.int (d - 6))) s = .ok (.d (.str t)) s := by
  have : d = 6 ∨ d = 7 ∨ d = 8 ∨ d = 9 ∨ d = 10 ∨ d = 11 ∨ d = 12 := by omega
  rcases this with rfl | rfl | rfl | rfl | rfl | rfl | rfl
  · exact ⟨"+", by decide, rfl⟩
  · exact ⟨"-", by decide, rfl⟩
  · exact ⟨"*", by decide, rfl⟩
  · exact ⟨"&", by decide, rfl⟩
  · exact ⟨"|", by decide, rfl⟩
  · exact ⟨"=", by decide, rfl⟩
  · exact ⟨"<", by decide, rfl⟩
theorem worthS7 (m k : Nat) {s s1 s2 s3 : Sto} {l n : Nat} {d : Int} {p q : D} (h0 : 6 ≤ d) (h1 : d < 13) (e1 : m__law_draw [.m l [], .d (.int 13)] s = .ok (.d (.int d)) s1) (o1 : Oth s s1 l)
    (e2 : m__law_worth m [.m l [], .d nmsD, .d (.int k)] s1 = .ok (.d p) s2) (o2 : Oth s1 s2 l) (e3 : m__law_worth m [.m l [], .d nmsD, .d (.int k)] s2 = .ok (.d q) s3) (o3 : Oth s2 s3 l) :
    ∃ g ∈ s7, m__law_worth (m + 1) [.m l [], .d nmsD, .d (.int (k + 1))] s = .ok (.d (.tup [.str g, p, q])) s3 := by
  have hk : (0 : Int) < k + 1 := by omega
  have hk2 : (k : Int) + 1 - 1 = k := by omega
  obtain ⟨g, hg, e4⟩ := ix7 h0 h1 s1
  have z0 : ¬ d = 0 := by omega
  have z1 : ¬ d = 1 := by omega
  have z2 : ¬ d = 2 := by omega
  have z3 : ¬ d = 3 := by omega
  have z4 : ¬ 4 = d := by omega
  have z5 : ¬ 5 = d := by omega
  refine ⟨g, hg, ?_⟩
  simp [worth_eq, b__law_worth, e1, o1.take, o2.take, o3.take, (o1.trans o2).take, ((o1.trans o2).trans o3).take, hk, hk2, e2, e3, in45, mk7, e4, z0, z1, z2, z3, z4, z5]
end LW
end

set_option Elab.async false
set_option linter.all false
set_option maxRecDepth 100000
set_option maxHeartbeats 1000000
noncomputable section
namespace LW
open PySem PySem.Spec PyProof.Rows L2 DL
/-- the case of a division -/
theorem worthS4 (m k : Nat) {s s1 s2 s3 s4 : Sto} {l : Nat} {d d2 d3 : Int} {p : D} (hd : d = 4 ∨ d = 5) (e1 : m__law_draw [.m l [], .d (.int 13)] s = .ok (.d (.int d)) s1) (o1 : Oth s s1 l)
    (e2 : m__law_draw [.m l [], .d (.int 6)] s1 = .ok (.d (.int d2)) s2) (o2 : Oth s1 s2 l)
    (e3 : m__law_draw [.m l [], .d (.int (if d2 = 0 then 1000 else 6))] s2 = .ok (.d (.int d3)) s3) (o3 : Oth s2 s3 l)
    (e4 : m__law_worth m [.m l [], .d nmsD, .d (.int k)] s3 = .ok (.d p) s4) (o4 : Oth s3 s4 l) :
    ∃ g : Str, (g = "//" ∨ g = "mod") ∧ m__law_worth (m + 1) [.m l [], .d nmsD, .d (.int (k + 1))] s = .ok (.d (.tup [.str g, p, .int (1 + d3)])) s4 := by
  have hk : (0 : Int) < k + 1 := by omega
  have hk2 : (k : Int) + 1 - 1 = k := by omega
  have B : ∀ (b : Bool) s, intG [.d (.bl b)] s = .ok (.d (.int (if b then 1 else 0))) s := fun _ _ => rfl
  have L : ∀ s, mkLst [.d (.int 6), .d (.int 1000)] s = .ok (.f [([], .lst [.int 6, .int 1000])]) s := fun s => mkL_of [.int 6, .int 1000] s (show 2 ≤ sizeLine by decide)
  have L2 : ∀ s, mkLst [.d (.str "//"), .d (.str "mod")] s = .ok (.f [([], .lst [.str "//", .str "mod"])]) s := fun s => mkL_of [.str "//", .str "mod"] s (show 2 ≤ sizeLine by decide)
  have I0 : ∀ s, ixSeq (.d (.lst [.int 6, .int 1000])) (.d (.int 0)) s = .ok (.d (.int 6)) s := fun _ => rfl
  have I1 : ∀ s, ixSeq (.d (.lst [.int 6, .int 1000])) (.d (.int 1)) s = .ok (.d (.int 1000)) s := fun _ => rfl
  have J0 : ∀ s, ixSeq (.d (.lst [.str "//", .str "mod"])) (.d (.int 0)) s = .ok (.d (.str "//")) s := fun _ => rfl
  have J1 : ∀ s, ixSeq (.d (.lst [.str "//", .str "mod"])) (.d (.int 1)) s = .ok (.d (.str "mod")) s := fun _ => rfl
  have t := (((o1.trans o2).trans o3).trans o4).take
  rcases hd with rfl | rfl
  · refine ⟨"//", .inl rfl, ?_⟩
    by_cases z : d2 = 0
    · rw [if_pos z] at e3
      simp [worth_eq, b__law_worth, e1, o1.take, o2.take, o3.take, o4.take, (o2.trans o3).take, t, hk, hk2, e2, e3, e4, in45, L, L2, B, I0, I1, J0, J1, z]
    · rw [if_neg z] at e3
      simp [worth_eq, b__law_worth, e1, o1.take, o2.take, o3.take, o4.take, (o2.trans o3).take, t, hk, hk2, e2, e3, e4, in45, L, L2, B, I0, I1, J0, J1, z]
  · refine ⟨"mod", .inr rfl, ?_⟩
    by_cases z : d2 = 0
    · rw [if_pos z] at e3
      simp [worth_eq, b__law_worth, e1, o1.take, o2.take, o3.take, o4.take, (o2.trans o3).take, t, hk, hk2, e2, e3, e4, in45, L, L2, B, I0, I1, J0, J1, z]
    · rw [if_neg z] at e3
      simp [worth_eq, b__law_worth, e1, o1.take, o2.take, o3.take, o4.take, (o2.trans o3).take, t, hk, hk2, e2, e3, e4, in45, L, L2, B, I0, I1, J0, J1, z]
end LW
end

set_option Elab.async false
set_option linter.all false
set_option maxRecDepth 100000
set_option maxHeartbeats 1000000
noncomputable section
namespace LW
open PySem PySem.Spec PyProof.Rows L2 DL
theorem worthS0 (m k : Nat) {s s1 : Sto} {l n : Nat} {d : Int} (hd : d = 0 ∨ d = 1 ∨ d = 2) (e1 : m__law_draw [.m l [], .d (.int 13)] s = .ok (.d (.int d)) s1) (o1 : Oth s s1 l) (p1 : PoolAt s1 l (n + 1)) (hn : n < 2 ^ 70) :
    ∃ p e s', m__law_worth (m + 1) [.m l [], .d nmsD, .d (.int (k + 1))] s = .ok (.d p) s' ∧ Pl (k + 1) p e ∧ PoolAt s' l (n + 5) ∧ Oth s s' l := by
  have hk : (0 : Int) < k + 1 := by omega
  rcases hd with rfl | rfl | rfl
  · obtain ⟨d1, s2, f1, c1, g1, p2, o2⟩ := draw (k := 9) p1 (by omega) (by decide) (by decide)
    obtain ⟨d2, s3, f2, c2, g2, p3, o3⟩ := draw (k := 2001) p2 (by omega) (by decide) (by decide)
    obtain ⟨d3, s4, f3, c3, g3, p4, o4⟩ := draw (k := 6) p3 (by omega) (by decide) (by decide)
    have L : mkLst [.d (.int (d1 - 4)), .d (.int (d2 - 1000))] s3 = .ok (.f [([], .lst [.int (d1 - 4), .int (d2 - 1000)])]) s3 := mkL_of [.int (d1 - 4), .int (d2 - 1000)] s3 (show 2 ≤ sizeLine by decide)
    have B : ∀ (b : Bool) s, intG [.d (.bl b)] s = .ok (.d (.int (if b then 1 else 0))) s := fun _ _ => rfl
    have I0 : ixSeq (.d (.lst [.int (d1 - 4), .int (d2 - 1000)])) (.d (.int 0)) s4 = .ok (.d (.int (d1 - 4))) s4 := rfl
    have I1 : ixSeq (.d (.lst [.int (d1 - 4), .int (d2 - 1000)])) (.d (.int 1)) s4 = .ok (.d (.int (d2 - 1000))) s4 := rfl
    have o := ((o1.trans o2).trans o3).trans o4
    by_cases z : d3 = 0
    · refine ⟨_, _, s4, ?_, .n (k + 1) (d2 - 1000) (by omega), p4.mono (by omega), o⟩
      simp [worth_eq, b__law_worth, hk, e1, o1.take, f1, f2, f3, o2.take, o3.take, o4.take, o.take, L, B, I1, z]
    · refine ⟨_, _, s4, ?_, .n (k + 1) (d1 - 4) (by omega), p4.mono (by omega), o⟩
      simp [worth_eq, b__law_worth, hk, e1, o1.take, f1, f2, f3, o2.take, o3.take, o4.take, o.take, L, B, I0, z]
  · obtain ⟨d2, s2, e2, a2, b2, p2, o2⟩ := draw (k := 3) p1 (by omega) (by decide) (by decide)
    obtain ⟨t, ht, e3⟩ := ixN3 a2 b2 s2
    refine ⟨_, _, s2, ?_, .c (k + 1) t ht, p2.mono (by omega), o1.trans o2⟩
    simp [worth_eq, b__law_worth, hk, e1, o1.take, o2.take, (o1.trans o2).take, nms_ne, e2, lenN, e3]
  · refine ⟨_, _, s1, ?_, .g (k + 1), p1.mono (by omega), o1⟩
    simp [worth_eq, b__law_worth, hk, e1, o1.take]
end LW
end

set_option Elab.async false
set_option linter.all false
set_option maxRecDepth 100000
set_option maxHeartbeats 1000000
noncomputable section
namespace LW
open PySem PySem.Spec PyProof.Rows L2 DL
/-- _law_worth at a depth of at most 2 -/
theorem worth : ∀ (k m : Nat) {s : Sto} {l n : Nat}, k < m → PoolAt s l n → n + dcost k < 2 ^ 70 →
    ∃ p e s', m__law_worth m [.m l [], .d nmsD, .d (.int k)] s = .ok (.d p) s' ∧ Pl k p e ∧ PoolAt s' l (n + dcost k) ∧ Oth s s' l
  | 0, m + 1, s, l, n, _, h, hn => worth0 m h (by simp only [dcost] at hn; omega)
  | k + 1, m + 1, s, l, n, hm, h, hn => by
    have hc : dcost (k + 1) = 2 * dcost k + 10 := rfl
    rw [hc] at hn ⊢
    obtain ⟨d, s1, e1, a1, b1, p1, o1⟩ := draw (k := 13) h (by omega) (by decide) (by decide)
    have hd : (d = 0 ∨ d = 1 ∨ d = 2) ∨ d = 3 ∨ (d = 4 ∨ d = 5) ∨ 6 ≤ d := by omega
    rcases hd with hd | rfl | hd | hd
    · obtain ⟨p, e, s', f1, f2, f3, f4⟩ := worthS0 m k hd e1 o1 p1 (by omega)
      exact ⟨p, e, s', f1, f2, f3.mono (by omega), f4⟩
    · obtain ⟨p, e, s2, f1, f2, f3, f4⟩ := worth k m (by omega) p1 (by omega)
      exact ⟨_, _, s2, worthS3 (n := n) m k e1 o1 f1 f4, .inv k p e f2, f3.mono (by omega), o1.trans f4⟩
    · obtain ⟨d2, s2, e2, a2, b2, p2, o2⟩ := draw (k := 6) p1 (by omega) (by decide) (by decide)
      obtain ⟨d3, s3, e3, a3, b3, p3, o3⟩ := draw (k := if d2 = 0 then 1000 else 6) p2 (by omega) (by split <;> decide) (by split <;> decide)
      obtain ⟨p, e, s4, f1, f2, f3, f4⟩ := worth k m (by omega) p3 (by omega)
      obtain ⟨g, hg, w⟩ := worthS4 m k hd e1 o1 e2 o2 e3 o3 f1 f4
      have : d3 < 1000 := by split at b3 <;> omega
      exact ⟨_, _, s4, w, .div k g p e (1 + d3) hg f2 (by omega) (by omega), f3.mono (by omega), ((o1.trans o2).trans o3).trans f4⟩
    · obtain ⟨p, e, s2, f1, f2, f3, f4⟩ := worth k m (by omega) p1 (by omega)
      obtain ⟨q, f, s3, g1, g2, g3, g4⟩ := worth k m (by omega) f3 (by omega)
      obtain ⟨g, hg, w⟩ := worthS7 (n := n) m k hd b1 e1 o1 f1 f4 g1 g4
      exact ⟨_, _, s3, w, .bin k g p q e f hg f2 g2, g3.mono (by omega), (o1.trans f4).trans g4⟩
end LW
end

set_option Elab.async false
set_option linter.all false
set_option maxRecDepth 100000
set_option maxHeartbeats 1000000
noncomputable section
namespace LW
open PySem PySem.Spec PyProof.Rows L2 DL
theorem name_ok (t : Str) (h : t ∈ nms) (s : Sto) : m_is_name [.d (.str t)] s = .ok (.d (.bl true)) s := by
  have : t = "a" ∨ t = "mod" ∨ t = "when" := by simpa [nms] using h
  unfold m_is_name
  rw [ev_run0]
  rcases this with rfl | rfl | rfl
  · have e : b_is_name s.length ([Val.d (.str "a")].map some ++ List.replicate (2 - [Val.d (.str "a")].length) none) s = .ok (.rt (.d (.bl true))) [some (.d (.str "a")), none] s := by kernel_rfl
    rw [e, fin_rt, take_self]
  · have e : b_is_name s.length ([Val.d (.str "mod")].map some ++ List.replicate (2 - [Val.d (.str "mod")].length) none) s = .ok (.rt (.d (.bl true))) [some (.d (.str "mod")), none] s := by kernel_rfl
    rw [e, fin_rt, take_self]
  · have e : b_is_name s.length ([Val.d (.str "when")].map some ++ List.replicate (2 - [Val.d (.str "when")].length) none) s = .ok (.rt (.d (.bl true))) [some (.d (.str "when")), none] s := by kernel_rfl
    rw [e, fin_rt, take_self]
theorem fn_cell (t : Str) (s : Sto) (h : m_is_name [.d (.str t)] s = .ok (.d (.bl true)) s) : m_cell [.d (.str t)] s = .ok (.f (valT "cell" (.str t) .non)) s := by
  have c : m_check_name [.d (.str t)] s = .ok (.d .non) s := by simp [m_check_name, b_check_name, h]
  simp [m_cell, b_cell, c, mk_Value]
end LW
end

set_option Elab.async false
set_option linter.all false
set_option maxRecDepth 100000
set_option maxHeartbeats 1000000
noncomputable section
namespace LW
open PySem PySem.Spec PyProof.Rows L2 DL
theorem value_eq (n : Nat) (args : List Val) : m__law_value (n + 1) args = runF 0 4 (b__law_value (m__law_part n) (m__law_value n)) args := rfl
theorem ixT0 (a : D) (r : List D) (s : Sto) : ixSeq (.d (.tup (a :: r))) (.d (.int 0)) s = .ok (.d a) s := by
  have : atI (a :: r) 0 = some a := by simp [atI, ixN]
  show (match atI (a :: r) 0 with | some d => Res.ok (Val.d d) s | none => .bad) = _
  rw [this]
theorem ixT1 (a b : D) (r : List D) (s : Sto) : ixSeq (.d (.tup (a :: b :: r))) (.d (.int 1)) s = .ok (.d b) s := by
  have hl : (1 : Int) < ((a :: b :: r).length : Nat) := by simp only [List.length_cons]; omega
  have : atI (a :: b :: r) 1 = some b := by
    unfold atI ixN
    rw [if_pos (by decide), if_pos hl]; rfl
  show (match atI (a :: b :: r) 1 with | some d => Res.ok (Val.d d) s | none => .bad) = _
  rw [this]
end LW
end

set_option Elab.async false
set_option linter.all false
set_option maxRecDepth 100000
set_option maxHeartbeats 1000000
noncomputable section
namespace LW
open PySem PySem.Spec PyProof.Rows L2 DL
def Ex.tree : Ex → DL.Tree
  | .pas => valT "passed" .non .non
  | .nam t => valT "cell" (.str t) .non
  | .num i => valT "number" (.int i) .non
  | .inv a => valT "~" a.val .non
  | .bin g a b => valT g a.val b.val
theorem stl_tree (e : Ex) (s : Sto) : settle (.f e.tree) s = .ok (.d e.val) s := by
  cases e <;> exact stl_val _ _ _ s
theorem value_n (m : Nat) (i : Int) (s : Sto) : m__law_value (m + 1) [.d (.tup [.str "n", .int i]), .d (.int 0)] s = .ok (.f (Ex.num i).tree) s := by
  have e : ∀ s, oAlt (inSeq false) (inStr false) (.d (.str "n")) (.d (.tup [.str "n", .str "c"])) s = .ok (.d (.bl true)) s := fun _ => rfl
  simp [value_eq, b__law_value, ixT0, ixT1, e, fn_number, Ex.tree]
theorem value_c (m : Nat) (t : Str) (s : Sto) (h : t ∈ nms) : m__law_value (m + 1) [.d (.tup [.str "c", .str t]), .d (.int 0)] s = .ok (.f (Ex.nam t).tree) s := by
  have e : ∀ s, oAlt (inSeq false) (inStr false) (.d (.str "c")) (.d (.tup [.str "n", .str "c"])) s = .ok (.d (.bl true)) s := fun _ => rfl
  have z : ¬ (Str.ofString "c" = Str.ofString "n") := by decide
  simp [value_eq, b__law_value, ixT0, ixT1, e, z, fn_cell t _ (name_ok t h _), Ex.tree]
theorem value_g (m : Nat) (s : Sto) : m__law_value (m + 1) [.d (.tup [.str "g"]), .d (.int 0)] s = .ok (.f Ex.pas.tree) s := by
  have e : ∀ s, oAlt (inSeq false) (inStr false) (.d (.str "g")) (.d (.tup [.str "n", .str "c"])) s = .ok (.d (.bl false)) s := fun _ => by
    rw [in_tup false _ _ _ rfl rfl]; rfl
  simp [value_eq, b__law_value, ixT0, ixT1, e, fn_passed, Ex.tree]
end LW
end

set_option Elab.async false
set_option linter.all false
set_option maxRecDepth 100000
set_option maxHeartbeats 400000
noncomputable section
namespace LW
open PySem PySem.Spec PyProof.Rows L2 DL TL SX
/-! # texts: evaluation -/
theorem sl_len (l : List Nat) : (S l).length = l.length := S_len l
theorem sixA (n k : Nat) : HT.sIx n 0 (some (k : Int)) = min k n := HT.sIx_nat n 0 k
theorem cut_two (l : List Nat) (i j : Nat) : cutS (S l) (some (i : Int)) (some (j : Int)) = S ((l.drop i).take (j - i)) := by
  unfold cutS
  rw [HT.sIx_nat, HT.sIx_nat, S_len]
  show S ((l.drop (min i l.length)).take (min j l.length - min i l.length)) = _
  congr 1
  by_cases h : i ≤ l.length
  · rw [Nat.min_eq_left h]
    by_cases k : j ≤ l.length
    · rw [Nat.min_eq_left k]
    · rw [Nat.min_eq_right (by omega), List.take_of_length_le (by simp), List.take_of_length_le (by simp; omega)]
  · rw [Nat.min_eq_right (show l.length ≤ i by omega), List.drop_of_length_le (Nat.le_refl _), List.drop_of_length_le (by omega)]; simp
theorem cut_to (l : List Nat) (j : Nat) : cutS (S l) none (some (j : Int)) = S (l.take j) := by
  unfold cutS
  rw [HT.sIx_nat, HT.sIx_none, S_len]
  show S ((l.drop 0).take (min j l.length - 0)) = _
  rw [List.drop_zero, Nat.sub_zero]
  congr 1
  by_cases k : j ≤ l.length
  · rw [Nat.min_eq_left k]
  · rw [Nat.min_eq_right (by omega), List.take_of_length_le (by omega), List.take_of_length_le (by omega)]
theorem cut_from (l : List Nat) (i : Nat) : cutS (S l) (some (i : Int)) none = S (l.drop i) := by
  unfold cutS
  rw [HT.sIx_nat, HT.sIx_none, S_len]
  show S ((l.drop (min i l.length)).take (l.length - min i l.length)) = _
  congr 1
  by_cases h : i ≤ l.length
  · rw [Nat.min_eq_left h, List.take_of_length_le (by simp)]
  · rw [Nat.min_eq_right (show l.length ≤ i by omega), List.drop_of_length_le (Nat.le_refl _), List.drop_of_length_le (by omega)]; simp
theorem cut_last (l : List Nat) : cutS (S l) (some (-1)) none = S (l.drop (l.length - 1)) := by
  unfold cutS
  rw [HT.sIx_none, S_len]
  show S ((l.drop ((-1 : Int) + (l.length : Int)).toNat).take (l.length - ((-1 : Int) + (l.length : Int)).toNat)) = _
  rw [show ((-1 : Int) + (l.length : Int)).toNat = l.length - 1 by omega]
  congr 1
  exact List.take_of_length_le (by simp)
theorem cut_mid (l : List Nat) : cutS (S l) (some 1) (some (-1)) = S (mid l) := by
  unfold cutS mid
  rw [show (1 : Int) = ((1 : Nat) : Int) from rfl, HT.sIx_nat, S_len]
  show S ((l.drop (min 1 l.length)).take (((-1 : Int) + (l.length : Int)).toNat - min 1 l.length)) = _
  rw [show ((-1 : Int) + (l.length : Int)).toNat = l.length - 1 by omega]
  congr 1
  cases l with
  | nil => rfl
  | cons c r =>
    rw [List.length_cons, Nat.min_eq_left (by omega), List.tail_cons, List.dropLast_eq_take]
    rfl
def paK (v : Val) (s : Sto) : Res (Option Int) := match v with
  | .d (.int i) => .ok (some i) s
  | _ => .bad
@[simp] theorem paK_i (i : Int) (s : Sto) : paK (.d (.int i)) s = .ok (some i) s := rfl
@[simp] theorem ev_part0 (env : En) (s : Sto) : ePart none env s = .ok none s := rfl
@[simp] theorem ev_part (m : En → M Val) (env : En) (s : Sto) : ePart (some m) env s = (m env s).bnd paK := rfl
@[simp] theorem ev_slice (m : En → M Val) (lo hi : Option (En → M Val)) (env : En) (s : Sto) : eSlice m lo hi env s = ((m env s).bnd settle).bnd fun v => bnd (ePart lo env) fun l => bnd (ePart hi env) fun h => sliceV l h v := rfl
@[simp] theorem sl_str (lo hi : Option Int) (z : Str) (s : Sto) : sliceV lo hi (.d (.str z)) s = if z.length ≤ sizeLine then .ok (.d (.str (cutS z lo hi))) s else .bad := rfl
def ngK (v : Val) (s : Sto) : Res Val := match v with
  | .d (.int i) => .ok (.d (.int (-i))) s
  | _ => .bad
@[simp] theorem ngK_i (i : Int) (s : Sto) : ngK (.d (.int i)) s = .ok (.d (.int (-i))) s := rfl
@[simp] theorem ev_neg (a : En → M Val) (env : En) (s : Sto) : eNeg a env s = (a env s).bnd ngK := rfl
def chK (o' : Val → Val → M Val) (m : M Val) (y : Val) (z : Val) (s : Sto) : Res Val := match z with
  | .d (.bl k) => if k = true then ((m s).bnd settle).bnd (o' y) else .ok (.d (.bl false)) s
  | _ => .bad
@[simp] theorem chK_b (o' : Val → Val → M Val) (m : M Val) (y : Val) (k : Bool) (s : Sto) : chK o' m y (.d (.bl k)) s = if k = true then ((m s).bnd settle).bnd (o' y) else .ok (.d (.bl false)) s := rfl
@[simp] theorem ev_chain (o o' : Val → Val → M Val) (a b c : En → M Val) (env : En) (s : Sto) : eChain o o' a b c env s = ((a env s).bnd settle).bnd fun x s1 => ((b env s1).bnd settle).bnd fun y s2 => (o x y s2).bnd (chK o' (c env) y) := rfl
@[simp] theorem ev_lc (vs : List Nat) (mi : En → M (List D)) (g : D → En → Option En) (mt : En → M Bool) (me : En → M Val) (env : En) (s : Sto) : eLc vs mi g mt me env s = (mi env s).bnd fun xs => bnd (lcL g mt me (wipeE env vs) xs []) fun ds s => .ok (Val.f [([], .lst ds)]) s := rfl
def itK (v : Val) (s : Sto) : Res (List D) := v.cD (fun x => match x with
  | .tup xs => .ok xs s
  | .lst xs => .ok xs s
  | .scr xs => .ok xs s
  | .str z => .ok (chD z) s
  | _ => .bad) .bad
@[simp] theorem ev_itSeq (m : En → M Val) (env : En) (s : Sto) : itSeq m env s = ((m env s).bnd settle).bnd itK := rfl
@[simp] theorem itK_s (z : Str) (s : Sto) : itK (.d (.str z)) s = .ok (chD z) s := rfl
@[simp] theorem itK_l (xs : List D) (s : Sto) : itK (.d (.lst xs)) s = .ok xs s := rfl
@[simp] theorem itK_t (xs : List D) (s : Sto) : itK (.d (.tup xs)) s = .ok xs s := rfl
theorem chD_S (l : List Nat) : chD (S l) = l.map fun c => D.str (S [c]) := rfl
theorem lc_map {g : D → En → Option En} {mt : En → M Bool} {me : En → M Val} {env0 : En} {s : Sto} {p : D → Bool} {f : D → D} {w : D → En} :
    ∀ (xs acc : List D), (∀ x ∈ xs, g x env0 = some (w x) ∧ mt (w x) s = .ok (p x) s ∧ (p x = true → stl me (w x) s = .ok (.d (f x)) s)) → acc.length + xs.length ≤ sizeLine →
      lcL g mt me env0 xs acc s = .ok (acc ++ (xs.filter p).map f) s
  | [], acc, _, _ => by simp [lcL]
  | x :: xs, acc, h, hl => by
    obtain ⟨h1, h2, h3⟩ := h x (by simp)
    have hl' : acc.length + (xs.length + 1) ≤ sizeLine := hl
    unfold lcL
    rw [h1]
    show (match mt (w x) s with | .ok true s1 => _ | .ok false s1 => _ | _ => _) = _
    rw [h2]
    cases hp : p x
    · rw [List.filter_cons_of_neg (by simp [hp])]
      exact lc_map xs acc (fun y hy => h y (by simp [hy])) (by omega)
    · rw [List.filter_cons_of_pos hp]
      show (match stl me (w x) s with | .ok (.d y) s2 => if acc.length < sizeLine then lcL g mt me env0 xs (acc ++ [y]) s2 else .bad | _ => .bad) = _
      rw [h3 hp]
      show (if acc.length < sizeLine then lcL g mt me env0 xs (acc ++ [f x]) s else .bad) = _
      rw [if_pos (by omega), lc_map xs (acc ++ [f x]) (fun y hy => h y (by simp [hy])) (by simp; omega)]
      simp
theorem bls_map {α : Type} (p : α → Bool) : ∀ l : List α, blsOf (l.map fun c => D.bl (p c)) = some (l.map p)
  | [] => rfl
  | c :: r => by
    show (blsOf (r.map fun c => D.bl (p c))).map (fun l => p c :: l) = _
    rw [bls_map p r]; rfl
theorem all_of {α : Type} (p : α → Bool) (l : List α) (s : Sto) : allG [.d (.lst (l.map fun c => D.bl (p c)))] s = .ok (.d (.bl (l.all p))) s := by
  show (match (some (l.map fun c => D.bl (p c))).bind blsOf with | some bs => Res.ok (Val.d (.bl (bs.all id))) s | none => .bad) = _
  rw [show (some (l.map fun c => D.bl (p c))).bind blsOf = blsOf (l.map fun c => D.bl (p c)) from rfl, bls_map]
  show Res.ok (Val.d (.bl ((l.map p).all id))) s = _
  rw [List.all_map]; rfl
theorem az_mem (c : Nat) : decide (c ∈ (Str.ofString "abcdefghijklmnopqrstuvwxyz").cps.toList) = isLet c := by
  rw [show (Str.ofString "abcdefghijklmnopqrstuvwxyz").cps.toList = List.range' 97 26 by decide, Bool.eq_iff_iff]
  unfold isLet
  simp [List.mem_range'_1]; omega
theorem dg_mem (c : Nat) : decide (c ∈ (Str.ofString "0123456789").cps.toList) = isDig c := by
  rw [show (Str.ofString "0123456789").cps.toList = List.range' 48 10 by decide, Bool.eq_iff_iff]
  unfold isDig
  simp [List.mem_range'_1]; omega
theorem mg_mem (c : Nat) : decide (c ∈ (Str.ofString "-0123456789").cps.toList) = isNum1 c := by
  rw [show (Str.ofString "-0123456789").cps.toList = 45 :: List.range' 48 10 by decide, Bool.eq_iff_iff]
  unfold isNum1 isDig
  simp [List.mem_range'_1]; omega
theorem in_az (c : Nat) (s : Sto) : oAlt (inSeq false) (inStr false) (.d (.str (S [c]))) (.d (.str "abcdefghijklmnopqrstuvwxyz")) s = .ok (.d (.bl (isLet c))) s := by
  rw [DL.in_str, if_neg (by decide), az_mem]
theorem in_dg (c : Nat) (s : Sto) : oAlt (inSeq false) (inStr false) (.d (.str (S [c]))) (.d (.str "0123456789")) s = .ok (.d (.bl (isDig c))) s := by
  rw [DL.in_str, if_neg (by decide), dg_mem]
theorem nin_dg (c : Nat) (s : Sto) : oAlt (inSeq true) (inStr true) (.d (.str (S [c]))) (.d (.str "0123456789")) s = .ok (.d (.bl (!isDig c))) s := by
  rw [DL.in_str, if_pos rfl, dg_mem]
theorem in_mg (c : Nat) (s : Sto) : oAlt (inSeq false) (inStr false) (.d (.str (S [c]))) (.d (.str "-0123456789")) s = .ok (.d (.bl (isNum1 c))) s := by
  rw [DL.in_str, if_neg (by decide), mg_mem]
end LW
end

set_option Elab.async false
set_option linter.all false
set_option maxRecDepth 100000
set_option maxHeartbeats 1000000
noncomputable section
namespace LW
open PySem PySem.Spec PyProof.Rows L2 DL TL SX
theorem lc_bl (l : List Nat) (f : Nat → Bool) (i : Nat) (me : En → M Val) (env : En) (s : Sto) (hl : l.length ≤ sizeLine) (h : ∀ c : Nat, stl me (env.set i (some (.d (.str (S [c]))))) s = .ok (.d (.bl (f c))) s) :
    lcL (gVar i) tYesM me env (l.map fun c => D.str (S [c])) [] s = .ok (l.map fun c => D.bl (f c)) s := by
  have := lc_map (g := gVar i) (mt := tYesM) (me := me) (env0 := env) (s := s) (p := fun _ => true) (f := fun d => match d with | .str z => .bl (match z.cps.toList with | c :: _ => f c | _ => false) | d => d) (w := fun d => env.set i (some (.d d))) (l.map fun c => D.str (S [c])) [] (fun x hx => by
    obtain ⟨c, hc, rfl⟩ := List.mem_map.mp hx
    exact ⟨rfl, rfl, fun _ => h c⟩) (by simpa using hl)
  rw [this]
  simp only [List.nil_append]
  rw [List.filter_eq_self.mpr (fun _ _ => rfl), List.map_map]
  rfl
theorem name_len (l : List Nat) : (decide ((1 : Int) ≤ (l.length : Int)) && decide ((l.length : Int) ≤ 8)) = (decide (1 ≤ l.length) && decide (l.length ≤ 8)) := by
  rw [Bool.eq_iff_iff]; simp; omega
theorem fn_is_name (l : List Nat) (s : Sto) (hl : l.length ≤ sizeLine) : m_is_name [.d (.str (S l))] s = .ok (.d (.bl (nameL l))) s := by
  have e := lc_bl l isLet 1 (eOp2 (oAlt (inSeq false) (inStr false)) (eVar 1) (eC (.str "abcdefghijklmnopqrstuvwxyz"))) [some (.d (.str (S l))), none] s hl (fun c => by simp [in_az])
  simp [m_is_name, b_is_name, hl, S_len, wipeE, chD_S, e, all_of]
  by_cases h1 : (1 : Int) ≤ (l.length : Int)
  · by_cases h2 : (l.length : Int) ≤ 8
    · have k1 : 1 ≤ l.length := by omega
      have k2 : l.length ≤ 8 := by omega
      simp [h1, h2, nameL, k1, k2]
    · have k2 : ¬ l.length ≤ 8 := by omega
      simp [h1, h2, nameL, k2]
  · have k1 : ¬ 1 ≤ l.length := by omega
    simp [h1, nameL, k1]
theorem S_eq (l m : List Nat) : (S l = S m) ↔ (l = m) := ⟨S_inj, fun h => h ▸ rfl⟩
theorem take1 (c : Nat) : ∀ l : List Nat, l.take 1 = [c] ↔ l.head? = some c := by
  intro l
  cases l with
  | nil => simp
  | cons d r => simp
theorem o_minus : Str.ofString "-" = S [45] := by decide
theorem o_0 : Str.ofString "0" = S [48] := by decide
theorem o_nil : Str.ofString "" = S [] := by decide
theorem o_q : Str.ofString "?" = S [63] := by decide
theorem o_wave : Str.ofString "~" = S [126] := by decide
theorem o_open : Str.ofString "(" = S [40] := by decide
theorem o_shut : Str.ofString ")" = S [41] := by decide
theorem o_sp : Str.ofString " " = S [32] := by decide
theorem ix_S {l : List Nat} {i c : Nat} (h : l[i]? = some c) (hl : l.length ≤ sizeLine) (s : Sto) : ixSeq (.d (.str (S l))) (.d (.int (i : Int))) s = .ok (.d (.str (S [c]))) s := by
  have e : atI l (i : Int) = some c := by
    unfold atI ixN
    have := (List.getElem?_eq_some_iff.mp h).1
    rw [if_pos (by omega), if_pos (by omega)]
    exact h
  show (if (S l).length ≤ sizeLine then (match atI l (i : Int) with | some c => Res.ok (Val.d (.str ⟨#[c]⟩)) s | none => .bad) else .bad) = _
  rw [if_pos (by rw [S_len]; exact hl), e]
theorem dgs_len (l : List Nat) : (dgs l).length ≤ l.length := by unfold dgs; split <;> simp
theorem fn_is_number (l : List Nat) (s : Sto) (hl : l.length ≤ sizeLine) : m_is_number [.d (.str (S l)), .d (.int 20)] s = .ok (.d (.bl (numT l))) s := by
  have hd : (dgs l).length ≤ sizeLine := Nat.le_trans (dgs_len l) hl
  have e0 : ∀ env : En, env[0]? = some (some (.d (.str (S l)))) → eIf (tVal (eOp2 eqV (eSlice (eVar 0) none (some (eC (.int 1)))) (eC (.str "-")))) (eSlice (eVar 0) (some (eC (.int 1))) none) (eVar 0) env s = .ok (.d (.str (S (dgs l)))) s := by
    intro env he
    have k1 := cut_to l 1
    have k2 := cut_from l 1
    rw [show ((1 : Nat) : Int) = 1 from rfl] at k1 k2
    simp [ev_var _ _ _ _ he, hl, S_len, k1, k2, o_minus, S_eq, take1]
    unfold dgs
    by_cases h : l.head? = some 45 <;> simp [h]
  have e := lc_bl (dgs l) isDig 3 (eOp2 (oAlt (inSeq false) (inStr false)) (eVar 3) (eC (.str "0123456789"))) [some (.d (.str (S l))), some (.d (.int 20)), some (.d (.str (S (dgs l)))), none] s hd (fun c => by simp [in_dg])
  unfold m_is_number b_is_number
  rw [ev_run0, ev_seq, ev_set, ev_stl, e0 _ rfl]
  simp [hd, S_len, wipeE, chD_S, e, all_of]
  cases hc : dgs l with
  | nil => simp [numT, hc]
  | cons c r =>
    have ix := ix_S (l := c :: r) (i := 0) (c := c) rfl (by rw [← hc]; exact hd) s
    rw [show ((0 : Nat) : Int) = 0 from rfl] at ix
    have h1 : (1 : Int) ≤ ((c :: r).length : Int) := by simp; omega
    rw [if_pos h1]
    by_cases h2 : (20 : Int) < ((c :: r).length : Int)
    · rw [if_pos h2]
      have : ¬ r.length + 1 ≤ 20 := by simp only [List.length_cons] at h2; omega
      simp [numT, hc, this]
    · rw [if_neg h2]
      have k2 : (c :: r).length ≤ 20 := by omega
      by_cases h3 : ∃ x, x ∈ c :: r ∧ isDig x = false
      · rw [if_pos h3]
        have : (c :: r).all isDig = false := by
          obtain ⟨x, hx, hx2⟩ := h3
          cases ha : (c :: r).all isDig
          · rfl
          · rw [List.all_eq_true.mp ha x hx] at hx2; cases hx2
        unfold numT
        rw [hc, this]
        simp
      · rw [if_neg h3]
        have h4 : (c :: r).all isDig = true := List.all_eq_true.mpr fun x hx => by
          cases hx2 : isDig x
          · exact absurd ⟨x, hx, hx2⟩ h3
          · rfl
        unfold numT
        rw [hc, h4]
        simp only [List.length_cons] at k2
        by_cases h5 : c = 48
        · subst h5
          simp [ix, o_0, S_eq, k2]
        · simp [ix, o_0, S_eq, h5, k2]
end LW
end

set_option Elab.async false
set_option linter.all false
set_option maxRecDepth 100000
set_option maxHeartbeats 1000000
noncomputable section
namespace LW
open PySem PySem.Spec PyProof.Rows L2 DL TL SX
/-! lists of texts, their equality -/
def Tx (l : List Nat) : Prop := ∀ c ∈ l, c < 1114112
theorem Tx.sub {l m : List Nat} (h : Tx l) (k : ∀ c ∈ m, c ∈ l) : Tx m := fun c hc => h c (k c hc)
theorem Tx.ok {l : List Nat} (h : Tx l) : PyData.strOk (S l) = true := by
  show (S l).cps.all (· < 1114112) = true
  rw [← Array.all_toList]
  exact List.all_eq_true.mpr fun c hc => by simpa using h c hc
theorem toPys_strs : ∀ ls : List (List Nat), toPys (ls.map fun l => D.str (S l)) = some (ls.map fun l => PyData.str (S l))
  | [] => rfl
  | l :: ls => by
    show (match toPy (D.str (S l)), toPys (ls.map fun l => D.str (S l)) with | some k, some ks => some (k :: ks) | _, _ => none) = _
    rw [toPys_strs ls]; rfl
theorem lay_strs : ∀ ls : List (List Nat), (∀ l ∈ ls, Tx l) → PyData.canLayAll0 (ls.map fun l => PyData.str (S l)) = true ∧ PyData.depthAll (ls.map fun l => PyData.str (S l)) = 0
  | [], _ => ⟨rfl, rfl⟩
  | l :: ls, h => by
    have ih := lay_strs ls fun m hm => h m (by simp [hm])
    have h1 := (h l (by simp)).ok
    refine ⟨?_, ?_⟩
    · simp only [List.map_cons, PyData.canLayAll0, PyData.canLay0, h1, ih.1, Bool.and_self]
    · simp only [List.map_cons, PyData.depthAll, PyData.depth, ih.2, Nat.max_self]
theorem shaped_strs (ls : List (List Nat)) (h : ∀ l ∈ ls, Tx l) : SeqAt.shaped (.list (ls.map fun l => PyData.str (S l))) = true := by
  have := lay_strs ls h
  unfold SeqAt.shaped
  simp only [PyData.canLay0, PyData.depth, this.1, this.2, Bool.true_and]
  decide
theorem eqv_strs : ∀ ls ms : List (List Nat), PyData.eqvAll (ls.map fun l => PyData.str (S l)) (ms.map fun l => PyData.str (S l)) = decide (ls = ms)
  | [], [] => by simp [PyData.eqvAll]
  | [], _ :: _ => by simp [PyData.eqvAll]
  | _ :: _, [] => by simp [PyData.eqvAll]
  | l :: ls, m :: ms => by
    have ih := eqv_strs ls ms
    simp only [List.map_cons, PyData.eqvAll, PyData.eqv, ih, S_beq_eq]
    rw [Bool.eq_iff_iff]; simp
theorem eqD_strs (ls ms : List (List Nat)) (h : ∀ l ∈ ls, Tx l) (k : ∀ l ∈ ms, Tx l) : eqD (.lst (ls.map fun l => D.str (S l))) (.lst (ms.map fun l => D.str (S l))) = some (decide (ls = ms)) := by
  show (match (toPys (ls.map fun l => D.str (S l))).map PyData.list, (toPys (ms.map fun l => D.str (S l))).map PyData.list with | some p, some q => if SeqAt.shaped p = true ∧ SeqAt.shaped q = true then some (PyData.eqv p q) else none | _, _ => none) = _
  rw [toPys_strs, toPys_strs]
  show (if SeqAt.shaped (.list (ls.map fun l => PyData.str (S l))) = true ∧ SeqAt.shaped (.list (ms.map fun l => PyData.str (S l))) = true then some (PyData.eqv (.list (ls.map fun l => PyData.str (S l))) (.list (ms.map fun l => PyData.str (S l)))) else none) = _
  rw [if_pos ⟨shaped_strs ls h, shaped_strs ms k⟩]
  simp only [PyData.eqv, eqv_strs]
theorem ne_strs (ls ms : List (List Nat)) (h : ∀ l ∈ ls, Tx l) (k : ∀ l ∈ ms, Tx l) (s : Sto) : neV (.d (.lst (ls.map fun l => D.str (S l)))) (.d (.lst (ms.map fun l => D.str (S l)))) s = .ok (.d (.bl (!decide (ls = ms)))) s := by
  show asD2 (fun x y => (eqD x y).map fun b => D.bl (!b)) _ _ s = _
  unfold asD2
  show (match (eqD (.lst (ls.map fun l => D.str (S l))) (.lst (ms.map fun l => D.str (S l)))).map (fun b => D.bl (!b)) with | some d => Res.ok (Val.d d) s | none => .bad) = _
  rw [eqD_strs ls ms h k]; rfl
theorem lc_fil (l : List Nat) (f : Nat → Bool) (i : Nat) (mt : En → M Bool) (env : En) (s : Sto) (hi : i < env.length) (hl : l.length ≤ sizeLine) (h : ∀ c : Nat, mt (env.set i (some (.d (.str (S [c]))))) s = .ok (f c) s) :
    lcL (gVar i) mt (eVar i) env (l.map fun c => D.str (S [c])) [] s = .ok ((l.filter f).map fun c => D.str (S [c])) s := by
  have := lc_map (g := gVar i) (mt := mt) (me := eVar i) (env0 := env) (s := s) (p := fun d => match d with | .str z => (match z.cps.toList with | c :: _ => f c | _ => false) | d => false) (f := id) (w := fun d => env.set i (some (.d d))) (l.map fun c => D.str (S [c])) [] (fun x hx => by
    obtain ⟨c, hc, rfl⟩ := List.mem_map.mp hx
    exact ⟨rfl, h c, fun _ => by rw [ev_stl, ev_var i _ _ (.d (.str (S [c]))) (by simp [hi])]; rfl⟩) (by simpa using hl)
  rw [this, List.filter_map]
  simp only [List.nil_append, List.map_map]
  rfl
theorem fn_integer (l : List Nat) (s : Sto) (hl : l.length ≤ sizeLine) (ht : Tx l) : m__law_integer [.d (.str (S l))] s = .ok (.d (.bl (numT l))) s := by
  have hd : (dgs l).length ≤ sizeLine := Nat.le_trans (dgs_len l) hl
  have e0 : ∀ env : En, env[0]? = some (some (.d (.str (S l)))) → eIf (tVal (eOp2 eqV (eSlice (eVar 0) none (some (eC (.int 1)))) (eC (.str "-")))) (eSlice (eVar 0) (some (eC (.int 1))) none) (eVar 0) env s = .ok (.d (.str (S (dgs l)))) s := by
    intro env he
    have k1 := cut_to l 1
    have k2 := cut_from l 1
    rw [show ((1 : Nat) : Int) = 1 from rfl] at k1 k2
    simp [ev_var _ _ _ _ he, hl, S_len, k1, k2, o_minus, S_eq, take1]
    unfold dgs
    by_cases h : l.head? = some 45 <;> simp [h]
  have e := lc_fil (dgs l) (fun c => !isDig c) 2 (tVal (eOp2 (oAlt (inSeq true) (inStr true)) (eVar 2) (eC (.str "0123456789")))) [some (.d (.str (S l))), some (.d (.str (S (dgs l)))), none] s (show 2 < 3 by decide) hd (fun c => by simp [nin_dg])
  have hT : Tx (dgs l) := ht.sub fun c hc => by
    unfold dgs at hc
    split at hc
    · exact List.mem_of_mem_tail hc
    · exact hc
  have ne := ne_strs (((dgs l).filter fun c => !isDig c).map fun c => [c]) [] (fun m hm c hc => by
    obtain ⟨x, hx, rfl⟩ := List.mem_map.mp hm
    rw [List.mem_singleton.mp hc]
    exact hT x (List.mem_filter.mp hx).1) nofun s
  rw [List.map_map] at ne
  have ne' : neV (.d (.lst (((dgs l).filter fun c => !isDig c).map fun c => D.str (S [c])))) (.d (.lst [])) s = .ok (.d (.bl (!decide ((((dgs l).filter fun c => !isDig c).map fun c => [c]) = [])))) s := ne
  unfold m__law_integer b__law_integer
  rw [ev_run0, ev_seq, ev_set, ev_stl, e0 _ rfl]
  simp [hd, S_len, wipeE, chD_S, e, ne', o_nil, S_eq]
  cases hc : dgs l with
  | nil => simp [numT, hc]
  | cons c r =>
    have ix := ix_S (l := c :: r) (i := 0) (c := c) rfl (by rw [← hc]; exact hd) s
    rw [show ((0 : Nat) : Int) = 0 from rfl] at ix
    rw [if_neg (by simp)]
    by_cases h2 : (20 : Int) < ((c :: r).length : Int)
    · rw [if_pos h2]
      have : ¬ r.length + 1 ≤ 20 := by simp only [List.length_cons] at h2; omega
      simp [numT, hc, this]
    · rw [if_neg h2]
      have k2 : (c :: r).length ≤ 20 := by omega
      by_cases h3 : ∃ x, x ∈ c :: r ∧ isDig x = false
      · rw [if_pos h3]
        have : (c :: r).all isDig = false := by
          obtain ⟨x, hx, hx2⟩ := h3
          cases ha : (c :: r).all isDig
          · rfl
          · rw [List.all_eq_true.mp ha x hx] at hx2; cases hx2
        unfold numT
        rw [hc, this]
        simp
      · rw [if_neg h3]
        have h4 : (c :: r).all isDig = true := List.all_eq_true.mpr fun x hx => by
          cases hx2 : isDig x
          · exact absurd ⟨x, hx, hx2⟩ h3
          · rfl
        unfold numT
        rw [hc, h4]
        simp only [List.length_cons] at k2
        by_cases h5 : c = 48
        · subst h5
          simp [ix, o_0, S_eq, k2]
        · simp [ix, o_0, S_eq, h5, k2]
end LW
end

set_option Elab.async false
set_option linter.all false
set_option maxRecDepth 100000
set_option maxHeartbeats 1000000
noncomputable section
namespace LW
open PySem PySem.Spec PyProof.Rows L2 DL TL SX
/-! while -/
theorem while_tw {t : En → M Bool} {body : SM} {E : Int → En} {l : List Nat} {p : Nat → Bool} {s : Sto} (ht : ∀ i : Nat, t (E i) s = .ok (match l[i]? with | some c => p c | none => false) s) (hb : ∀ i : Nat, body (E i) s = .ok .nx (E ((i : Int) + 1)) s) :
    ∀ (n i : Nat), l.length - i < n → sWhile t body n (E i) s = .ok .nx (E ((i : Int) + (((l.drop i).takeWhile p).length : Nat))) s
  | 0, i, h => absurd h (Nat.not_lt_zero _)
  | n + 1, i, h => by
    unfold sWhile
    rw [ht i, sb_ok]
    by_cases hi : i < l.length
    · have e : l[i]? = some l[i] := List.getElem?_eq_getElem hi
      rw [e, List.drop_eq_getElem_cons hi]
      show (if p l[i] = true then _ else _) = _
      cases hp : p l[i]
      · rw [if_neg (by simp), List.takeWhile_cons_of_neg (by simp [hp])]
        simp
      · rw [if_pos rfl, hb i]
        show sWhile t body n (E ((i : Int) + 1)) s = _
        have ih := while_tw ht hb n (i + 1) (by omega)
        rw [show ((i + 1 : Nat) : Int) = (i : Int) + 1 by omega] at ih
        rw [ih, List.takeWhile_cons_of_pos hp, List.length_cons]
        congr 2
        omega
    · have e : l[i]? = none := List.getElem?_eq_none (by omega)
      rw [e, List.drop_of_length_le (by omega)]
      simp
theorem ev_while (t : En → M Bool) (b : SM) (n : Nat) (env env' : En) (s : Sto) (h : sWhile t b n env s = .ok .nx env' s) : sWhile t b n env s = .ok .nx env' s := h
theorem ix_ok {l : List Nat} {i : Nat} (h : i < l.length) (hl : l.length ≤ sizeLine) (s : Sto) : ixSeq (.d (.str (S l))) (.d (.int (i : Int))) s = .ok (.d (.str (S [l[i]]))) s := ix_S (List.getElem?_eq_getElem h) hl s
theorem fn_run {p : Nat → Bool} {al : Str} (hal : ∀ (c : Nat) (s : Sto), oAlt (inSeq false) (inStr false) (.d (.str (S [c]))) (.d (.str al)) s = .ok (.d (.bl (p c))) s) (l : List Nat) (i : Nat) (s : Sto) (hl : l.length < 1000000) :
    m__law_run [.d (.str (S l)), .d (.int (i : Int)), .d (.str al)] s = .ok (.d (.int ((i : Int) + (((l.drop i).takeWhile p).length : Nat)))) s := by
  have hz : l.length ≤ sizeLine := Nat.le_trans (Nat.le_of_lt hl) (by decide)
  have w := while_tw (t := tAnd (tVal (eOp2 ltV (eVar 3) (eBi lenG (vCons (eVar 0) (vNil))))) (tVal (eOp2 (oAlt (inSeq false) (inStr false)) (eOp2 ixSeq (eVar 0) (eVar 3)) (eVar 2))))
    (body := sSeq (sSet 3 (eOp2 addV (eVar 3) (eC (.int 1)))) (sNil)) (E := fun k => [some (.d (.str (S l))), some (.d (.int (i : Int))), some (.d (.str al)), some (.d (.int k))]) (l := l) (p := p) (s := s) (fun j => by
      by_cases hj : j < l.length
      · have e : l[j]? = some l[j] := List.getElem?_eq_getElem hj
        simp [S_len, hz, ix_ok hj hz, hal, e, hj]
      · have e : l[j]? = none := List.getElem?_eq_none (by omega)
        simp [S_len, hz, e, hj]) (fun j => by simp) 1000000 i (by omega)
  unfold m__law_run b__law_run
  simp only [ev_run0, ev_seq, ev_set, ev_stl]
  simp [w]
end LW
end

set_option Elab.async false
set_option linter.all false
set_option maxRecDepth 100000
set_option maxHeartbeats 1000000
noncomputable section
namespace LW
open PySem PySem.Spec PyProof.Rows L2 DL TL SX
/-! split, join, count -/
theorem cnt_count (c : Nat) : ∀ l : List Nat, PyProof.Rows.cnt c l = (l.count c : Int)
  | [] => rfl
  | n :: r => by
    rw [cnt_cons, cnt_count c r, List.count_cons]
    by_cases h : n = c
    · subst h; simp; omega
    · simp [h]
theorem count_S (c : Nat) (l : List Nat) : Txt.count (S l) (S [c]) = (l.count c : Int) := by
  rw [← cnt_count]; exact count_cnt (S l) c
theorem split_ok (l : List Nat) (s : Sto) (h : l.length + 2 ≤ sizeLine) : splitG (.d (.str (S l))) [.d (.str (S [32]))] s = .ok (.f [([], .lst ((spb l).map fun p => D.str (S p)))]) s := by
  show (if ((S [32]).length == 0) = false ∧ (S l).length + 2 ≤ sizeLine then Res.ok (Val.f [([], .lst ((Txt.split (S l) (S [32])).map .str))]) s else .bad) = _
  rw [if_pos ⟨by decide, by rw [S_len]; exact h⟩, split_S (by simp) (by decide), List.map_map]
  rfl
def tot (ps : List (List Nat)) : Nat := (ps.map List.length).sum + ps.length
theorem tot_app (a b : List (List Nat)) : tot (a ++ b) = tot a + tot b := by unfold tot; simp; omega
theorem join_len : ∀ ps : List (List Nat), ps ≠ [] → (TL.joinL [32] ps).length + 1 = tot ps
  | [p], _ => by simp [TL.joinL, tot]
  | p :: q :: r, _ => by
    have ih := join_len (q :: r) (by simp)
    show (p ++ ([32] ++ TL.joinL [32] (q :: r))).length + 1 = _
    simp only [List.length_append, List.length_cons, List.length_nil]
    have e : tot (p :: q :: r) = (p.length + 1) + tot (q :: r) := tot_app [p] (q :: r)
    omega
theorem strs_of (ps : List (List Nat)) : strsOf (ps.map fun p => D.str (S p)) = some (ps.map S) := by
  induction ps with
  | nil => rfl
  | cons p r ih =>
    show (strsOf (r.map fun p => D.str (S p))).map (fun l => S p :: l) = _
    rw [ih]; rfl
def lsD (ps : List (List Nat)) : List D := ps.map fun p => D.str (S p)
theorem join_ok (ps : List (List Nat)) (s : Sto) (h : tot ps ≤ 1000000) : joinG (.d (.str (S [32]))) [.d (.lst (lsD ps))] s = .ok (.d (.str (S (TL.joinL [32] ps)))) s := by
  show (match (some (ps.map fun p => D.str (S p))).bind strsOf with | some ys => if (ys.map Str.length).sum + ys.length * (S [32]).length ≤ 16777216 then Res.ok (Val.d (.str (Txt.join (S [32]) ys))) s else .bad | none => .bad) = _
  rw [show (some (ps.map fun p => D.str (S p))).bind strsOf = strsOf (ps.map fun p => D.str (S p)) from rfl, strs_of]
  show (if ((ps.map S).map Str.length).sum + (ps.map S).length * (S [32]).length ≤ 16777216 then Res.ok (Val.d (.str (Txt.join (S [32]) (ps.map S)))) s else .bad) = _
  have e : (ps.map fun x => x.length) = ps.map List.length := rfl
  have e2 : ((ps.map S).map Str.length).sum = (ps.map List.length).sum := by rw [← e, ← lens]
  rw [join_S, if_pos]
  rw [List.length_map, show (S [32]).length = 1 from rfl, e2]; unfold tot at h; omega
theorem cutD_to (xs : List D) (k : Nat) : DL.cutD xs none (some (k : Int)) = xs.take k := by
  unfold DL.cutD
  rw [HT.sIx_nat, HT.sIx_none, List.drop_zero, Nat.sub_zero]
  by_cases h : k ≤ xs.length
  · rw [Nat.min_eq_left h]
  · rw [Nat.min_eq_right (show xs.length ≤ k by omega), List.take_of_length_le (Nat.le_refl _), List.take_of_length_le (by omega)]
theorem cutD_from (xs : List D) (k : Nat) : DL.cutD xs (some (k : Int)) none = xs.drop k := by
  unfold DL.cutD
  rw [HT.sIx_nat, HT.sIx_none]
  by_cases h : k ≤ xs.length
  · rw [Nat.min_eq_left h, List.take_of_length_le (by simp)]
  · rw [Nat.min_eq_right (show xs.length ≤ k by omega), List.drop_of_length_le (Nat.le_refl _), List.drop_of_length_le (by omega)]; simp
@[simp] theorem sl_lst (lo hi : Option Int) (xs : List D) (s : Sto) : sliceV lo hi (.d (.lst xs)) s = .ok (.f [([], .lst (cutD xs lo hi))]) s := rfl
@[simp] theorem len_lst (xs : List D) (s : Sto) : lenG [.d (.lst xs)] s = .ok (.d (.int xs.length)) s := rfl
/-! for -/
def SR.lp (r : SR) (k : SM) : SR := match r with
  | .ok .nx env2 s2 => k env2 s2
  | .ok .ct env2 s2 => k env2 s2
  | .ok .bk env2 s2 => .ok .nx env2 s2
  | r => r
@[simp] theorem lp_nx (env : En) (s : Sto) (k : SM) : SR.lp (.ok .nx env s) k = k env s := rfl
@[simp] theorem lp_rt (env : En) (s : Sto) (k : SM) (v : Val) : SR.lp (.ok (.rt v) env s) k = .ok (.rt v) env s := rfl
@[simp] theorem lp_ite (c : Prop) [Decidable c] (x y : SR) (k : SM) : SR.lp (if c then x else y) k = if c then SR.lp x k else SR.lp y k := by split <;> rfl
theorem for_nil (g : D → En → Option En) (b : SM) (env : En) (s : Sto) : forL g b [] env s = .ok .nx env s := rfl
theorem for_cons {g : D → En → Option En} {x : D} {env env1 : En} (b : SM) (xs : List D) (s : Sto) (h : g x env = some env1) : forL g b (x :: xs) env s = SR.lp (b env1 s) (forL g b xs) := by
  show (match g x env with | none => SR.bad | some env1 => _) = _
  rw [h]; rfl
@[simp] theorem ev_for (mi : En → M (List D)) (g : D → En → Option En) (b : SM) (env : En) (s : Sto) : sFor mi g b env s = (mi env s).sb env fun xs s1 => forL g b xs env s1 := rfl
def enK (vs : List Val) (s : Sto) : Res (List D) := match vs with
  | [.d (.lst xs)] => .ok (enumD xs) s
  | _ => .bad
@[simp] theorem ev_enum (mv : En → M (List Val)) (env : En) (s : Sto) : itEnum mv env s = (mv env s).bnd enK := rfl
@[simp] theorem enK_l (xs : List D) (s : Sto) : enK [.d (.lst xs)] s = .ok (enumD xs) s := rfl
def bSp : SM := (sSeq (sIf (tAnd (tVal (eOp2 eqV (eVar 2) (eC (.int 0)))) (tVal (eChain ltV ltV (eC (.int 0)) (eVar 3) (eOp2 subV (eBi lenG (vCons (eVar 1) (vNil))) (eC (.int 1)))))) (sSeq (sRet (eTup (vCons (eBm strR joinG (eC (.str " ")) (vCons (eSlice (eVar 1) none (some (eVar 3))) (vNil))) (vCons (eVar 4) (vCons (eBm strR joinG (eC (.str " ")) (vCons (eSlice (eVar 1) (some (eOp2 addV (eVar 3) (eC (.int 1)))) none) (vNil))) (vNil)))))) (sNil)) (sNil)) (sSeq (sSet 2 (eOp2 subV (eOp2 addV (eVar 2) (eBm strR countG (eVar 4) (vCons (eC (.str "(")) (vNil)))) (eBm strR countG (eVar 4) (vCons (eC (.str ")")) (vNil))))) (sNil)))
theorem bSp_eq (pre : List (List Nat)) (p : List Nat) (r : List (List Nat)) (d : Int) (t : D) (s : Sto) (h : tot (pre ++ p :: r) ≤ 1000000) :
    bSp [some (.d t), some (.d (.lst (lsD (pre ++ p :: r)))), some (.d (.int d)), some (.d (.int (pre.length : Nat))), some (.d (.str (S p)))] s =
      if d = 0 ∧ pre ≠ [] ∧ r ≠ [] then .ok (.rt (.d (.tup [.str (S (TL.joinL [32] pre)), .str (S p), .str (S (TL.joinL [32] r))]))) [some (.d t), some (.d (.lst (lsD (pre ++ p :: r)))), some (.d (.int d)), some (.d (.int (pre.length : Nat))), some (.d (.str (S p)))] s
      else .ok .nx [some (.d t), some (.d (.lst (lsD (pre ++ p :: r)))), some (.d (.int (d + wc p))), some (.d (.int (pre.length : Nat))), some (.d (.str (S p)))] s := by
  have t1 : tot pre ≤ 1000000 := by rw [tot_app] at h; omega
  have t2 : tot r ≤ 1000000 := by rw [tot_app, show p :: r = [p] ++ r from rfl, tot_app] at h; omega
  have j1 := join_ok pre s t1
  have j2 := join_ok r s t2
  have c1 := cutD_to (lsD (pre ++ p :: r)) pre.length
  have c2 := cutD_from (lsD (pre ++ p :: r)) (pre.length + 1)
  have k1 : (lsD (pre ++ p :: r)).take pre.length = lsD pre := by
    unfold lsD; rw [← List.map_take, List.take_left]
  have k2 : (lsD (pre ++ p :: r)).drop (pre.length + 1) = lsD r := by
    unfold lsD; rw [← List.map_drop, List.drop_append, List.drop_of_length_le (by omega), show pre.length + 1 - pre.length = 1 by omega]; rfl
  rw [k1] at c1
  rw [k2, show ((pre.length + 1 : Nat) : Int) = (pre.length : Int) + 1 by omega] at c2
  have ln : (lsD (pre ++ p :: r)).length = pre.length + (r.length + 1) := by unfold lsD; simp
  have w : d + (p.count 40 : Int) - (p.count 41 : Int) = d + wc p := by unfold wc; omega
  by_cases hd : d = 0
  · by_cases h1 : pre = []
    · subst h1; subst hd
      simp [bSp, o_open, o_shut, count_S] <;> (unfold wc; omega)
    · have h1' : (0 : Int) < (pre.length : Int) := by have := List.length_pos_iff.mpr h1; omega
      by_cases h2 : r = []
      · have : ¬ ((pre.length : Int) < (((lsD (pre ++ p :: r)).length : Nat) : Int) - 1) := by rw [ln, h2]; simp <;> omega
        rw [if_neg (fun e => e.2.2 h2)]
        have h1n : 0 < pre.length := by omega
        simp [bSp, o_open, o_shut, count_S, hd, h1n, this] <;> (unfold wc; omega)
      · have : ((pre.length : Int) < (((lsD (pre ++ p :: r)).length : Nat) : Int) - 1) := by rw [ln]; have := List.length_pos_iff.mpr h2; omega
        rw [if_pos ⟨hd, h1, h2⟩]
        have h1n : 0 < pre.length := by omega
        simp [bSp, hd, h1n, this, c1, c2, o_sp, j1, j2]
  · rw [if_neg (fun e => hd e.1)]
    simp [bSp, o_open, o_shut, count_S, hd, w]
end LW
end

set_option Elab.async false
set_option linter.all false
set_option maxRecDepth 100000
set_option maxHeartbeats 1000000
noncomputable section
namespace LW
open PySem PySem.Spec PyProof.Rows L2 DL TL SX
theorem for_sp (t : D) (s : Sto) : ∀ (r pre : List (List Nat)) (d : Int) (x3 x4 : Option Val), tot (pre ++ r) ≤ 1000000 →
    ∃ env', forL (gTupD [gVar 3, gVar 4]) bSp ((r.map fun p => D.str (S p)).zipIdx pre.length |>.map fun p => .tup [.int (p.2 : Nat), p.1]) [some (.d t), some (.d (.lst (lsD (pre ++ r)))), some (.d (.int d)), x3, x4] s =
      (match sp2 pre d r with | some q => .ok (.rt (.d (.tup [.str (S (TL.joinL [32] q.1)), .str (S q.2.1), .str (S (TL.joinL [32] q.2.2))]))) env' s | none => .ok .nx env' s)
  | [], pre, d, x3, x4, _ => ⟨_, rfl⟩
  | p :: r, pre, d, x3, x4, h => by
    rw [List.map_cons, List.zipIdx_cons, List.map_cons]
    rw [for_cons (env1 := [some (.d t), some (.d (.lst (lsD (pre ++ p :: r)))), some (.d (.int d)), some (.d (.int (pre.length : Nat))), some (.d (.str (S p)))]) _ _ _ rfl]
    rw [bSp_eq pre p r d t s h]
    unfold sp2
    by_cases hc : d = 0 ∧ pre ≠ [] ∧ r ≠ []
    · rw [if_pos hc, if_pos hc]
      exact ⟨_, rfl⟩
    · rw [if_neg hc, if_neg hc, lp_nx]
      have ih := for_sp t s r (pre ++ [p]) (d + wc p) (some (.d (.int (pre.length : Nat)))) (some (.d (.str (S p)))) (by simpa using h)
      have e : (pre ++ [p]) ++ r = pre ++ p :: r := by simp
      rw [e, List.length_append] at ih
      exact ih
def spR (l : List Nat) : D := match spP l with
  | some q => .tup [.str (S q.1), .str (S q.2.1), .str (S q.2.2)]
  | none => .non
theorem mid_len (l : List Nat) : (mid l).length ≤ l.length := by unfold mid; simp; omega
theorem fn_split_pair (l : List Nat) (s : Sto) (hl : l.length ≤ 900000) : m_split_pair [.d (.str (S l))] s = .ok (.d (spR l)) s := by
  have hz : l.length ≤ sizeLine := Nat.le_trans hl (by decide)
  have hm := mid_len l
  have hz2 : (mid l).length + 2 ≤ sizeLine := by have : 900000 + 2 ≤ sizeLine := by decide
                                                 omega
  have ht : tot (spb (mid l)) ≤ 1000000 := by
    obtain ⟨j1, j2, _⟩ := spb_join _ (mid l) (Nat.le_refl _)
    rw [← join_len _ j2, j1]; omega
  obtain ⟨env', hf⟩ := for_sp (.str (S l)) s (spb (mid l)) [] 0 none none ht
  have hf' : forL (gTupD [gVar 3, gVar 4]) (sSeq (sIf (tAnd (tVal (eOp2 eqV (eVar 2) (eC (.int 0)))) (tVal (eChain ltV ltV (eC (.int 0)) (eVar 3) (eOp2 subV (eBi lenG (vCons (eVar 1) (vNil))) (eC (.int 1)))))) (sSeq (sRet (eTup (vCons (eBm strR joinG (eC (.str " ")) (vCons (eSlice (eVar 1) none (some (eVar 3))) (vNil))) (vCons (eVar 4) (vCons (eBm strR joinG (eC (.str " ")) (vCons (eSlice (eVar 1) (some (eOp2 addV (eVar 3) (eC (.int 1)))) none) (vNil))) (vNil)))))) (sNil)) (sNil)) (sSeq (sSet 2 (eOp2 subV (eOp2 addV (eVar 2) (eBm strR countG (eVar 4) (vCons (eC (.str "(")) (vNil)))) (eBm strR countG (eVar 4) (vCons (eC (.str ")")) (vNil))))) (sNil))) (enumD (lsD (spb (mid l)))) [some (.d (.str (S l))), some (.d (.lst (lsD (spb (mid l))))), some (.d (.int 0)), none, none] s = _ := hf
  have sp := split_ok (mid l) s hz2
  unfold m_split_pair b_split_pair
  simp only [ev_run0, ev_seq, ev_set, ev_stl, ev_bm, ev_slice]
  simp [S_len, hz, cut_mid, o_sp, sp]
  rw [show ((spb (mid l)).map fun p => D.str (S p)) = lsD (spb (mid l)) from rfl]
  rw [o_sp] at hf'
  rw [hf']
  unfold spR spP
  cases sp2 [] 0 (spb (mid l)) <;> simp
end LW
end

set_option Elab.async false
set_option linter.all false
set_option maxRecDepth 100000
set_option maxHeartbeats 1000000
noncomputable section
namespace LW
open PySem PySem.Spec PyProof.Rows L2 DL TL SX
theorem joinL_cons (p : List Nat) : ∀ b : List (List Nat), b ≠ [] → TL.joinL [32] (p :: b) = p ++ 32 :: TL.joinL [32] b
  | q :: r, _ => by show p ++ ([32] ++ TL.joinL [32] (q :: r)) = _; simp
theorem joinL_app : ∀ (a : List (List Nat)) (b : List (List Nat)), a ≠ [] → b ≠ [] → TL.joinL [32] (a ++ b) = TL.joinL [32] a ++ 32 :: TL.joinL [32] b
  | [p], b, _, hb => joinL_cons p b hb
  | p :: q :: r, b, _, hb => by
    rw [List.cons_append, joinL_cons p _ (by simp), joinL_app (q :: r) b (by simp) hb, joinL_cons p _ (by simp)]
    simp
theorem sp2_inv : ∀ (r pre : List (List Nat)) (d : Int) (a : List (List Nat)) (g : List Nat) (b : List (List Nat)), sp2 pre d r = some (a, g, b) → pre ++ r = a ++ g :: b ∧ a ≠ [] ∧ b ≠ []
  | [], _, _, _, _, _, h => by cases h
  | p :: r, pre, d, a, g, b, h => by
    unfold sp2 at h
    split at h
    · rename_i hc; cases h; exact ⟨rfl, hc.2.1, hc.2.2⟩
    · have := sp2_inv r _ _ _ _ _ h
      simpa using this
theorem spP_inv {l p g q : List Nat} (h : spP l = some (p, g, q)) : mid l = p ++ 32 :: (g ++ 32 :: q) := by
  unfold spP at h
  cases hs : sp2 [] 0 (spl [32] 0 [] (mid l)) with
  | none => rw [hs] at h; cases h
  | some t =>
    obtain ⟨a, g', b⟩ := t
    rw [hs] at h
    cases h
    obtain ⟨h1, h2, h3⟩ := sp2_inv _ _ _ _ _ _ hs
    obtain ⟨j1, _, _⟩ := spb_join _ (mid l) (Nat.le_refl _)
    rw [List.nil_append] at h1
    rw [← j1, show spb (mid l) = a ++ g' :: b from h1, joinL_app a _ h2 (by simp), joinL_cons g' b h3]
theorem br_inv {l : List Nat} (h1 : l.head? = some 40) (h2 : l.getLast? = some 41) : l = 40 :: (mid l ++ [41]) := by
  have e := head_cons h1
  have hne : l.tail ≠ [] := fun h => by rw [e, h] at h2; simp at h2
  have : l.tail.getLast? = some 41 := by rw [e, List.getLast?_cons_of_ne_nil hne] at h2; exact h2
  have e2 : l.tail = l.tail.dropLast ++ [41] := by
    have := List.dropLast_concat_getLast hne
    rw [List.getLast?_eq_some_getLast hne] at *
    rename_i k
    rw [Option.some.inj k] at this
    exact this.symm
  unfold mid
  rw [← e2]; exact e
def valOf : Option Ex → D
  | some e => e.val
  | none => .non
def resOf (o : Option Ex) (s : Sto) : Res Val := match o with
  | some e => .ok (.f e.tree) s
  | none => .ok (.d .non) s
theorem stl_res (o : Option Ex) (s : Sto) : (resOf o s).bnd settle = .ok (.d (valOf o)) s := by
  cases o with
  | none => rfl
  | some e => exact stl_tree e s
theorem cut_res (o : Option Ex) (s : Sto) : (resOf o s).cut s.length = resOf o s := by
  cases o <;> simp [resOf]
theorem val_ne (e : Ex) : ¬ e.val = .non := by cases e <;> exact nofun
def Ex.sgn : Ex → Str
  | .pas => "passed"
  | .nam _ => "cell"
  | .num _ => "number"
  | .inv _ => "~"
  | .bin g _ _ => g
theorem fld_sgn (e : Ex) (s : Sto) : fldV ["Value", "Step"] "sign" (.d e.val) s = .ok (.d (.str e.sgn)) s := by
  cases e <;> exact fld_sign _ _ _ s
theorem ops_nin (g : List Nat) (s : Sto) : oAlt (inSeq true) (inStr true) (.d (.str (S g))) (.d (.tup [.str "+", .str "-", .str "*", .str "//", .str "mod", .str "&", .str "|", .str "=", .str "<"])) s = .ok (.d (.bl (!decide (g ∈ opsL)))) s := by
  rw [in_tup true _ _ _ rfl rfl, if_pos rfl]
  congr 4
  rw [show ([.str "+", .str "-", .str "*", .str "//", .str "mod", .str "&", .str "|", .str "=", .str "<"] : List D) = (opsL.map fun o => D.str (S o)) by rw [show ([.str "+", .str "-", .str "*", .str "//", .str "mod", .str "&", .str "|", .str "=", .str "<"] : List D) = ops.map D.str from rfl, show ops = opsL.map S by decide, List.map_map]; rfl, List.any_map, Bool.eq_iff_iff, decide_eq_true_iff, List.any_eq_true]
  constructor
  · rintro ⟨x, hx, h⟩
    have : S x = S g := of_decide_eq_true h
    rw [← S_inj this]; exact hx
  · intro h
    exact ⟨g, h, decide_eq_true rfl⟩
theorem tree_inv (a : Ex) : (Ex.inv a).tree = valT (S [126]) a.val .non := by rw [← o_wave]; rfl
theorem in_dv (g : List Nat) (s : Sto) : oAlt (inSeq false) (inStr false) (.d (.str (S g))) (.d (.tup [.str "//", .str "mod"])) s = .ok (.d (.bl (dv g))) s := by
  rw [in_tup false _ _ _ rfl rfl, if_neg (by simp)]
  congr 3
  have e1 : Str.ofString "//" = S [47, 47] := by decide
  have e2 : Str.ofString "mod" = S [109, 111, 100] := by decide
  rw [e1, e2]
  show (decide (S [47, 47] = S g) || (decide (S [109, 111, 100] = S g) || false)) = (decide (g = [47, 47]) || decide (g = [109, 111, 100]))
  rw [Bool.or_false]
  congr 1 <;> rw [decide_eq_decide, S_eq] <;> exact eq_comm
theorem ne_num {g : List Nat} (h : g ∈ opsL) : ¬ S g = Str.ofString "number" := by
  have e : Str.ofString "number" = S [110, 117, 109, 98, 101, 114] := by decide
  rw [e, S_eq]
  revert h; revert g; decide
theorem vin_eq (n : Nat) (args : List Val) : m_value_in (n + 1) args = runF 0 5 (b_value_in (m_value_in n)) args := rfl
theorem last1 (l : List Nat) : l.drop (l.length - 1) = [41] ↔ l.getLast? = some 41 := by
  cases hl : l.getLast? with
  | none =>
    have : l = [] := List.getLast?_eq_none_iff.mp hl
    subst this; simp
  | some c =>
    have hne : l ≠ [] := fun h => by rw [h] at hl; cases hl
    have e := List.dropLast_concat_getLast hne
    rw [List.getLast?_eq_some_getLast hne] at hl
    rw [Option.some.inj hl] at e
    have e2 : l.drop (l.length - 1) = [c] := by
      rw [← e]; simp
    rw [e2]; simp
def pkK (b n : Nat) (ts : List (Nat × Option Nat)) (env : En) (m : Nat) (vs : List Val) (s1 : Sto) : SR := match parPut b n ts vs env s1 with
  | some (env', s2) => .ok .nx env' (s2.take m)
  | none => .bad
@[simp] theorem ev_par (b : Nat) (ts : List (Nat × Option Nat)) (mv : En → M (List Val)) (env : En) (s : Sto) : sPar b ts mv env s = (mv env s).sb env (pkK b s.length ts env s.length) := rfl
@[simp] theorem pk_2 (b n m : Nat) (i j : Nat) (env : En) (x y : D) (s1 : Sto) : pkK b n [(i, none), (j, none)] env m [.d x, .d y] s1 = .ok .nx ((env.set i (some (.d x))).set j (some (.d y))) (s1.take m) := rfl
theorem ixT2 (a b c : D) (r : List D) (s : Sto) : ixSeq (.d (.tup (a :: b :: c :: r))) (.d (.int 2)) s = .ok (.d c) s := by
  have hl : (2 : Int) < ((a :: b :: c :: r).length : Nat) := by simp only [List.length_cons]; omega
  have : atI (a :: b :: c :: r) 2 = some c := by
    unfold atI ixN
    rw [if_pos (by decide), if_pos hl]; rfl
  show (match atI (a :: b :: c :: r) 2 with | some d => Res.ok (Val.d d) s | none => .bad) = _
  rw [this]
theorem tree_bin (g : Str) (a b : Ex) : (Ex.bin g a b).tree = valT g a.val b.val := rfl
theorem o_number : Str.ofString "number" = S [110, 117, 109, 98, 101, 114] := by decide
theorem sgn_num (b : Ex) (h : Good b) : (∃ j, b = .num j) ∨ ¬ b.sgn = Str.ofString "number" := by
  cases b with
  | num j => exact .inl ⟨j, rfl⟩
  | pas => exact .inr (show ¬ Str.ofString "passed" = Str.ofString "number" by decide)
  | nam t => exact .inr (show ¬ Str.ofString "cell" = Str.ofString "number" by decide)
  | inv a => exact .inr (show ¬ Str.ofString "~" = Str.ofString "number" by decide)
  | bin g a b =>
    refine .inr fun e => ?_
    have : tl g ∈ opsL := h.1
    have e : g = Str.ofString "number" := e
    rw [e] at this
    revert this; decide
theorem fn_vin : ∀ (n : Nat) (l : List Nat) (s : Sto), sg l < n → l.length ≤ 900000 → m_value_in n [.d (.str (S l))] s = resOf (vin n l) s
  | 0, l, s, h, _ => absurd h (Nat.not_lt_zero _)
  | n + 1, l, s, h, hl => by
    have hz : l.length ≤ sizeLine := Nat.le_trans hl (by decide)
    have c1 := cut_to l 1
    have c2 := cut_from l 1
    rw [show ((1 : Nat) : Int) = 1 from rfl] at c1 c2
    have c3 := cut_last l
    rw [vin_eq]
    unfold vin
    by_cases h1 : l = [63]
    · rw [if_pos h1]
      simp [b_value_in, o_q, S_eq, h1, fn_passed, resOf, Ex.tree]
    rw [if_neg h1]
    have nm := fn_is_name l s hz
    by_cases h2 : nameL l = true
    · rw [if_pos h2]
      rw [h2] at nm
      simp [b_value_in, o_q, S_eq, h1, nm, fn_cell _ s nm, resOf, Ex.tree]
    rw [if_neg h2]
    have h2' : nameL l = false := by simpa using h2
    rw [h2'] at nm
    have nu := fn_is_number l s hz
    by_cases h3 : numT l = true
    · rw [if_pos h3]
      rw [h3] at nu
      obtain ⟨r1, r2⟩ := num_read h3
      have it : intG [.d (.str (S l))] s = .ok (.d (.int (valL l))) s := by
        show (match PySem.intText? (S l) with | some n => if (S l).length ≤ 640 then Res.ok (Val.d (.int n)) s else .bad | none => .bad) = _
        rw [r1]
        show (if (S l).length ≤ 640 then Res.ok (Val.d (.int (valL l))) s else .bad) = _
        rw [if_pos (by rw [S_len]; omega)]
      simp [b_value_in, o_q, S_eq, h1, nm, nu, it, fn_number, resOf, Ex.tree]
    rw [if_neg h3]
    have h3' : numT l = false := by simpa using h3
    rw [h3'] at nu
    by_cases h4 : l.head? = some 126
    · rw [if_pos h4]
      have e := head_cons h4
      have hs : sg l.tail < n := by
        have : sg l = sg l.tail + 1 := by
          conv => lhs; rw [e]
          unfold sg; simp; omega
        omega
      have ih := fn_vin n l.tail s hs (by simp; omega)
      cases hv : vin n l.tail with
      | none =>
        rw [hv] at ih
        simp [b_value_in, o_q, S_eq, h1, nm, nu, hz, S_len, c1, c2, o_wave, take1, h4, ih, resOf]
      | some a =>
        rw [hv] at ih
        have st := stl_tree a s
        have cl : clsV (.d a.val) s = some (Str.ofString "Value") := by cases a <;> rfl
        simp [b_value_in, o_q, S_eq, h1, nm, nu, hz, S_len, c1, c2, o_wave, take1, h4, ih, resOf, st, val_ne, cl, fn_invert, tree_inv]
    rw [if_neg h4]
    by_cases h5 : ¬ l.head? = some 40
    · rw [if_pos (.inl h5)]
      simp [b_value_in, o_q, S_eq, h1, nm, nu, hz, S_len, c1, c2, o_wave, take1, h4, o_open, h5, resOf]
    have h5 := Decidable.not_not.mp h5
    by_cases h6 : ¬ l.getLast? = some 41
    · rw [if_pos (.inr h6)]
      simp [b_value_in, o_q, S_eq, h1, nm, nu, hz, S_len, c1, c2, o_wave, take1, h4, o_open, h5, c3, o_shut, last1, h6, resOf]
    have h6 := Decidable.not_not.mp h6
    rw [if_neg (by simp [h5, h6])]
    have sp := fn_split_pair l s hl
    unfold spR at sp
    cases hp : spP l with
    | none =>
      rw [hp] at sp
      simp [b_value_in, o_q, S_eq, h1, nm, nu, hz, S_len, c1, c2, o_wave, take1, h4, o_open, h5, c3, o_shut, last1, h6, resOf, sp]
    | some t =>
      obtain ⟨p, g, q⟩ := t
      rw [hp] at sp
      have hl2 := br_inv h5 h6
      have hm := spP_inv hp
      have hsg : sg p + sg q + 1 ≤ sg l := by
        rw [hl2, hm]
        unfold sg; simp; omega
      have hpl : p.length + q.length ≤ l.length := by rw [hl2, hm]; simp; omega
      have sp : m_split_pair [.d (.str (S l))] s = .ok (.d (.tup [.str (S p), .str (S g), .str (S q)])) s := sp
      show _ = resOf (if g ∉ opsL then none else match vin n p, vin n q with | some a, some b => if dv g = true ∧ posNum b = false then none else some (.bin (S g) a b) | _, _ => none) s
      by_cases h7 : ¬ g ∈ opsL
      · rw [if_pos h7]
        simp [b_value_in, o_q, S_eq, h1, nm, nu, hz, S_len, c1, c2, o_wave, take1, h4, o_open, h5, c3, o_shut, last1, h6, resOf, sp, ixT1, ops_nin, h7]
      rw [if_neg h7]
      have h7 := Decidable.not_not.mp h7
      have ihp := fn_vin n p s (by omega) (by omega)
      have ihq := fn_vin n q s (by omega) (by omega)
      have kp : (m_value_in n [.d (.str (S p))] s).cut s.length = resOf (vin n p) s := by rw [ihp, cut_res]
      have kq : (m_value_in n [.d (.str (S q))] s).cut s.length = resOf (vin n q) s := by rw [ihq, cut_res]
      have ln : ∀ b : Ex, fldV ["Value"] "first" (.d (.obj "Value" [("sign", .str "number"), ("first", b.val), ("second", .non)])) s = .ok (.d b.val) s := fun b => fld_first _ _ _ s
      cases ha : vin n p with
      | none =>
        rw [ha] at kp
        cases hb : vin n q with
        | none =>
          rw [hb] at kq
          simp [b_value_in, o_q, S_eq, h1, nm, nu, hz, S_len, c1, c2, o_wave, take1, h4, o_open, h5, c3, o_shut, last1, h6, sp, ixT0, ixT1, ixT2, ops_nin, h7, kp, kq, stl_res, valOf]
          rfl
        | some b =>
          rw [hb] at kq
          simp [b_value_in, o_q, S_eq, h1, nm, nu, hz, S_len, c1, c2, o_wave, take1, h4, o_open, h5, c3, o_shut, last1, h6, sp, ixT0, ixT1, ixT2, ops_nin, h7, kp, kq, stl_res, valOf]
          rfl
      | some a =>
        rw [ha] at kp
        cases hb : vin n q with
        | none =>
          rw [hb] at kq
          simp [b_value_in, o_q, S_eq, h1, nm, nu, hz, S_len, c1, c2, o_wave, take1, h4, o_open, h5, c3, o_shut, last1, h6, sp, ixT0, ixT1, ixT2, ops_nin, h7, kp, kq, stl_res, valOf, val_ne]
          rfl
        | some b =>
          rw [hb] at kq
          have gb := (vin_good n q b hb).1
          show _ = resOf (if dv g = true ∧ posNum b = false then none else some (.bin (S g) a b)) s
          cases hd : dv g
          · rw [if_neg (by simp)]
            simp [b_value_in, o_q, S_eq, h1, nm, nu, hz, S_len, c1, c2, o_wave, take1, h4, o_open, h5, c3, o_shut, last1, h6, sp, ixT0, ixT1, ixT2, ops_nin, h7, kp, kq, stl_res, stl_tree, valOf, val_ne, in_dv, hd, mk_Value, resOf, tree_bin]
          · rcases sgn_num b gb with ⟨j, rfl⟩ | hn
            · have ff : fldV ["Value"] "first" (.d (Ex.num j).val) s = .ok (.d (.int j)) s := fld_first _ _ _ s
              have fs := fld_sgn (.num j) s
              have e : (Ex.num j).sgn = Str.ofString "number" := rfl
              rw [e] at fs
              by_cases hj : 1 ≤ j
              · have hj' : ¬ j < 1 := by omega
                rw [if_neg (by simp [posNum, hj])]
                simp [b_value_in, o_q, S_eq, h1, nm, nu, hz, S_len, c1, c2, o_wave, take1, h4, o_open, h5, c3, o_shut, last1, h6, sp, ixT0, ixT1, ixT2, ops_nin, h7, kp, kq, stl_res, stl_tree, valOf, val_ne, in_dv, hd, mk_Value, resOf, tree_bin, fs, ff, hj']
              · have hj' : j < 1 := by omega
                rw [if_pos (by simp [posNum, hj])]
                simp [b_value_in, o_q, S_eq, h1, nm, nu, hz, S_len, c1, c2, o_wave, take1, h4, o_open, h5, c3, o_shut, last1, h6, sp, ixT0, ixT1, ixT2, ops_nin, h7, kp, kq, stl_res, stl_tree, valOf, val_ne, in_dv, hd, resOf, fs, ff, hj']
            · have hp : posNum b = false := by
                cases b <;> first | rfl | exact absurd rfl hn
              rw [if_pos (by simp [hp])]
              have fs := fld_sgn b s
              simp [b_value_in, o_q, S_eq, h1, nm, nu, hz, S_len, c1, c2, o_wave, take1, h4, o_open, h5, c3, o_shut, last1, h6, sp, ixT0, ixT1, ixT2, ops_nin, h7, kp, kq, stl_res, stl_tree, valOf, val_ne, in_dv, hd, resOf, fs, hn]
end LW
end

set_option Elab.async false
set_option linter.all false
set_option maxRecDepth 100000
set_option maxHeartbeats 1000000
noncomputable section
namespace LW
open PySem PySem.Spec PyProof.Rows L2 DL TL SX NumText
theorem vin_show : ∀ (n : Nat) (l : List Nat) (e : Ex), vin n l = some e → shL e = l
  | 0, l, e, h => by cases h
  | n + 1, l, e, h => by
    unfold vin at h
    split at h
    · rename_i h1; cases h; exact h1.symm
    split at h
    · cases h; rfl
    split at h
    · rename_i hn; cases h; exact num_text hn
    split at h
    · rename_i h4
      cases hv : vin n l.tail with
      | none => rw [hv] at h; cases h
      | some a =>
        rw [hv] at h; cases h
        have ih := vin_show n _ _ hv
        show 126 :: shL a = l
        rw [ih]; exact (head_cons h4).symm
    split at h
    · cases h
    rename_i h5
    have h6 : l.head? = some 40 := Decidable.not_not.mp fun e => h5 (.inl e)
    have h7 : l.getLast? = some 41 := Decidable.not_not.mp fun e => h5 (.inr e)
    split at h
    · cases h
    · rename_i p g q hs
      split at h
      · cases h
      · split at h
        · rename_i a b ha hb
          split at h
          · cases h
          · cases h
            have i1 := vin_show n _ _ ha
            have i2 := vin_show n _ _ hb
            have e := br_inv h6 h7
            rw [spP_inv hs] at e
            show 40 :: (shL a ++ 32 :: (g ++ 32 :: (shL b ++ [41]))) = l
            rw [i1, i2]
            rw [e]; simp
        · cases h
theorem dv_lt : ∀ (n : Nat) (cs : List Nat), cs.length = n → AllDigits cs → digitsVal cs < 10 ^ n := by
  intro n
  induction n with
  | zero => intro cs h _; rw [List.length_eq_zero_iff.mp h]; decide
  | succ n ih =>
    intro cs hl hd
    have hn : cs ≠ [] := fun e => by rw [e] at hl; cases hl
    obtain ⟨a, d, rfl⟩ : ∃ a d, cs = a ++ [d] := ⟨cs.dropLast, cs.getLast hn, (List.dropLast_concat_getLast hn).symm⟩
    have hdd := hd d (by simp)
    have := ih a (by simp at hl; exact hl) (fun c hc => hd c (by simp [hc]))
    rw [dv_snoc, Nat.pow_succ]; omega
theorem val_small {l : List Nat} (h : numT l = true) : (valL l).natAbs < 10 ^ 20 := by
  obtain ⟨h1, h2, h3, h4⟩ := numT_iff h
  have := dv_lt _ _ rfl h1
  have k : (10 : Nat) ^ (dgs l).length ≤ 10 ^ 20 := Nat.pow_le_pow_right (by decide) h3
  unfold valL
  split <;> omega
theorem log_small {n : Nat} (h : n < 10 ^ 20) : n.log2 < 1920 := by
  by_cases h0 : n = 0
  · subst h0; decide
  · exact (Nat.log2_lt h0).mpr (Nat.lt_trans h (by decide))
theorem good_ok : ∀ e : Ex, Good e → e.ok
  | .pas, _ => trivial
  | .nam _, _ => trivial
  | .num _, h => by obtain ⟨l, h1, rfl⟩ := h; exact log_small (val_small h1)
  | .inv a, h => good_ok a h
  | .bin g a b, h => ⟨by have := ops_tl.mpr h.1; rwa [S_tl] at this, good_ok a h.2.1, good_ok b h.2.2.1⟩
theorem show_vin {n : Nat} {l : List Nat} {e : Ex} (h : vin n l = some e) (hn : n ≤ 60) (hl : l.length ≤ 900000) (s : Sto) : m_show_value 60 [.d e.val] s = .ok (.d (.str (S l))) s := by
  have e1 := vin_show n l e h
  obtain ⟨g, d⟩ := vin_good n l e h
  have e2 : e.show = S l := by rw [← e1, ← tl_show, S_tl]
  have := show_spec e 60 s (by omega) (good_ok e g) (by rw [e2, S_len]; exact Nat.le_trans hl (by decide))
  rw [this, e2]
theorem fn_value_of_text (l : List Nat) (s : Sto) (hl : l.length ≤ 900000) : m_value_of_text [.d (.str (S l))] s = .ok (.d (if 12 < sg l then .non else valOf (vin 60 l))) s := by
  by_cases h : 12 < sg l
  · have h' : (12 : Int) < (l.count 40 : Int) + (l.count 126 : Int) := by unfold sg at h; omega
    rw [if_pos h]
    simp [m_value_of_text, b_value_of_text, o_open, o_wave, count_S, h']
  · have h' : ¬ (12 : Int) < (l.count 40 : Int) + (l.count 126 : Int) := by unfold sg at h; omega
    have v := fn_vin 60 l s (by omega) hl
    have k : (m_value_in 60 [.d (.str (S l))] s).cut s.length = resOf (vin 60 l) s := by rw [v, cut_res]
    rw [if_neg h]
    cases hv : vin 60 l with
    | none =>
      rw [hv] at k
      simp [m_value_of_text, b_value_of_text, o_open, o_wave, count_S, h', k, stl_res, valOf]
    | some e =>
      rw [hv] at k
      have sh := show_vin hv (Nat.le_refl _) hl s
      simp [m_value_of_text, b_value_of_text, o_open, o_wave, count_S, h', k, stl_res, valOf, val_ne, sh]
def okT (l : List Nat) : Bool := !decide (12 < sg l) && (vin 60 l).isSome
theorem fn_read_value (l : List Nat) (s : Sto) (hl : l.length ≤ 900000) : m_read_value [.d (.str (S l))] s = (if okT l = true then .ok (.d (valOf (vin 60 l))) s else .exc (.obj "Unreadable" [("value", .str (S l))]) s) := by
  have v := fn_value_of_text l s hl
  unfold okT
  by_cases h : 12 < sg l
  · rw [if_pos h] at v
    simp [m_read_value, b_read_value, v, h]
  · rw [if_neg h] at v
    cases hv : vin 60 l with
    | none => rw [hv] at v; simp [m_read_value, b_read_value, v, h, valOf]
    | some e => rw [hv] at v; simp [m_read_value, b_read_value, v, h, valOf, val_ne]
def SR.te (r : SR) (i : Nat) : SR := match r with
  | .ok fw env2 s2 => .ok fw (env2.set i none) s2
  | _ => .bad
@[simp] theorem te_ok (fw : Fw) (env : En) (s : Sto) (i : Nat) : SR.te (.ok fw env s) i = .ok fw (env.set i none) s := rfl
def SR.ty (r : SR) (hs : List (Str × Bool)) (i : Nat) (suite : D → SM) : SR := match r with
  | .exc (.obj c fs) env1 s1 => match hs.lookup c with
    | some true => if i < env1.length then SR.te (suite (.obj c fs) (env1.set i none) s1) i else .bad
    | some false => .exc (.obj c fs) env1 s1
    | none => .bad
  | .exc _ _ _ => .bad
  | r => r
theorem ev_try (hs : List (Str × Bool)) (i : Nat) (body : SM) (suite : D → SM) (env : En) (s : Sto) : sTry hs i body suite env s = SR.ty (body env s) hs i suite := by
  unfold sTry SR.ty SR.te
  cases body env s with
  | ok f e s1 => rfl
  | bad => rfl
  | exc d e s1 => cases d <;> rfl
@[simp] theorem ty_ok (fw : Fw) (env : En) (s : Sto) (hs : List (Str × Bool)) (i : Nat) (suite : D → SM) : SR.ty (.ok fw env s) hs i suite = .ok fw env s := rfl
theorem ty_exc {c : Str} {fs : List (Str × D)} {env : En} {s : Sto} {hs : List (Str × Bool)} {i : Nat} {suite : D → SM} (h : hs.lookup c = some true) (hi : i < env.length) : SR.ty (.exc (.obj c fs) env s) hs i suite = SR.te (suite (.obj c fs) (env.set i none) s) i := by
  show (match hs.lookup c with | some true => if i < env.length then SR.te (suite (.obj c fs) (env.set i none) s) i else .bad | some false => .exc (.obj c fs) env s | none => .bad) = _
  rw [h]
  exact if_pos hi
theorem ev_xis {i : Nat} {c : Str} {fs : List (Str × D)} {tb : List (Str × Bool)} {env : En} {b : Bool} (s : Sto) (h : env[i]? = some none) (k : tb.lookup c = some b) : eXis i (.obj c fs) tb env s = .ok (.d (.bl b)) s := by
  unfold eXis
  rw [h]
  show (match tb.lookup c with | some b => Res.ok (Val.d (.bl b)) s | none => .bad) = _
  rw [k]
theorem ev_xval {i : Nat} {c f : Str} {fs : List (Str × D)} {xs : List Str} {env : En} {x : D} (s : Sto) (h : env[i]? = some none) (hc : c ∈ xs) (k : fs.lookup f = some x) : eXval xs i (.obj c fs) f env s = .ok (.d x) s := by
  unfold eXval
  rw [h]
  show (if c ∈ xs then (match fs.lookup f with | some x => Res.ok (Val.d x) s | none => .bad) else .bad) = _
  rw [if_pos hc, k]
theorem fn_caught (l : List Nat) (s : Sto) (hl : l.length ≤ 900000) : m__law_caught [.d (.str (S l))] s = .ok (.d (.lst (if okT l = true then [.str (S l)] else []))) s := by
  have rv := fn_read_value l s hl
  by_cases h : okT l = true
  · rw [if_pos h] at rv
    have : ∃ e, vin 60 l = some e := by
      unfold okT at h
      rw [Bool.and_eq_true] at h
      exact Option.isSome_iff_exists.mp h.2
    obtain ⟨e, he⟩ := this
    have sh := show_vin he (Nat.le_refl _) hl s
    rw [he] at rv
    simp [m__law_caught, b__law_caught, ev_try, rv, valOf, sh, h]
  · rw [if_neg h] at rv
    simp [m__law_caught, b__law_caught, ev_try, rv, h]
    rw [ty_exc (by rfl) (show 2 < 4 by decide)]
    have x1 : ∀ v1 v3, eXis 2 (.obj "Unreadable" [("value", .str (S l))]) [("WorkError", false), ("InvalidName", true), ("UnknownName", false), ("InvalidDivisor", true), ("Unreadable", false)] [some (.d (.str (S l))), v1, none, v3] s = .ok (.d (.bl false)) s := fun _ _ => ev_xis _ rfl (by rfl)
    have x2 : ∀ v1 v3, eXis 2 (.obj "Unreadable" [("value", .str (S l))]) [("WorkError", false), ("InvalidName", false), ("UnknownName", false), ("InvalidDivisor", false), ("Unreadable", true)] [some (.d (.str (S l))), v1, none, v3] s = .ok (.d (.bl true)) s := fun _ _ => ev_xis _ rfl (by rfl)
    have x3 : ∀ v1 v3, eXval ["WorkError", "InvalidName", "UnknownName", "InvalidDivisor", "Unreadable"] 2 (.obj "Unreadable" [("value", .str (S l))]) "value" [some (.d (.str (S l))), v1, none, v3] s = .ok (.d (.str (S l))) s := fun _ _ => ev_xval _ rfl (by decide) (by rfl)
    simp [x1, x2, x3]
end LW
end

set_option Elab.async false
set_option linter.all false
set_option maxRecDepth 100000
set_option maxHeartbeats 1000000
noncomputable section
namespace LW
open PySem PySem.Spec PyProof.Rows L2 DL TL SX NumText
def posOf (l : List Nat) : Option (List Nat) → Int
  | none => 0
  | some r => (l.length : Int) - (r.length : Int)
theorem sh_ne : ∀ e : Ex, Good e → shL e ≠ []
  | .pas, _ => by simp [shL]
  | .nam t, h => fun e => by have h' : nameL (tl t) = true := h; rw [show tl t = [] from e] at h'; exact absurd h' (by decide)
  | .num i, h => fun e => by
    obtain ⟨l, h1, rfl⟩ := h
    have e : tl (Str.ofString (toString (valL l))) = [] := e
    rw [num_text h1] at e
    rw [e] at h1; exact absurd h1 (by decide)
  | .inv a, _ => by simp [shL]
  | .bin g a b, _ => by simp [shL]
theorem enl_len {n : Nat} {m r : List Nat} (h : enl n m = some r) : r.length < m.length ∧ m.drop (m.length - r.length) = r ∧ sg r ≤ sg m := by
  obtain ⟨e, g, _, rfl⟩ := enl_inv n m r h
  have := List.length_pos_iff.mpr (sh_ne e g)
  refine ⟨by simp; omega, by rw [List.length_append, Nat.add_sub_cancel, List.drop_left], by unfold sg; simp only [List.count_append]; omega⟩
theorem enl_at {n i : Nat} {l r : List Nat} (h : enl n (l.drop i) = some r) : r.length + i < l.length ∧ l.drop (l.length - r.length) = r := by
  obtain ⟨h1, h2, _⟩ := enl_len h
  rw [List.length_drop] at h1 h2
  refine ⟨by omega, ?_⟩
  rw [List.drop_drop] at h2
  rwa [show i + (l.length - i - r.length) = l.length - r.length by omega] at h2
theorem ends_eq (n : Nat) (args : List Val) : m__law_ends (n + 1) args = runF 0 9 (b__law_ends (m__law_ends n)) args := rfl
def ops9 : List Val := [.d (.str "+"), .d (.str "-"), .d (.str "*"), .d (.str "//"), .d (.str "mod"), .d (.str "&"), .d (.str "|"), .d (.str "="), .d (.str "<")]
theorem mkT9 (s : Sto) : mkTup [.d (.str "+"), .d (.str "-"), .d (.str "*"), .d (.str "//"), .d (.str "mod"), .d (.str "&"), .d (.str "|"), .d (.str "="), .d (.str "<")] s = .ok (.d (.tup [.str "+", .str "-", .str "*", .str "//", .str "mod", .str "&", .str "|", .str "=", .str "<"])) s := mkT_of [.str "+", .str "-", .str "*", .str "//", .str "mod", .str "&", .str "|", .str "=", .str "<"] s (show 9 ≤ sizeLine by decide)
theorem cut_one (l : List Nat) (i : Nat) : cutS (S l) (some (i : Int)) (some ((i : Int) + 1)) = S ((l.drop i).take 1) := by
  have := cut_two l i (i + 1)
  rw [show ((i + 1 : Nat) : Int) = (i : Int) + 1 by omega, show i + 1 - i = 1 by omega] at this
  exact this
theorem cut_tw (p : Nat → Bool) (l : List Nat) (i : Nat) : cutS (S l) (some (i : Int)) (some ((i : Int) + (((l.drop i).takeWhile p).length : Nat))) = S ((l.drop i).takeWhile p) := by
  have := cut_two l i (i + ((l.drop i).takeWhile p).length)
  rw [show ((i + ((l.drop i).takeWhile p).length : Nat) : Int) = (i : Int) + (((l.drop i).takeWhile p).length : Nat) by omega, Nat.add_sub_cancel_left] at this
  rw [this]
  congr 1
  conv => lhs; rhs; rw [tw_split p (l.drop i)]
  exact List.take_left
theorem drop_tw (p : Nat → Bool) (l : List Nat) (i : Nat) : l.drop (i + ((l.drop i).takeWhile p).length) = (l.drop i).dropWhile p := by
  rw [← List.drop_drop]
  conv => lhs; rhs; rw [tw_split p (l.drop i)]
  exact List.drop_left
theorem pos_dw (p : Nat → Bool) (l : List Nat) (i : Nat) (h : i ≤ l.length) : (l.length : Int) - (((l.drop i).dropWhile p).length : Int) = (i : Int) + (((l.drop i).takeWhile p).length : Nat) := by
  have := congrArg List.length (tw_split p (l.drop i))
  rw [List.length_append, List.length_drop] at this
  omega
section
variable {n i : Nat} {l : List Nat} {s : Sto}
theorem ends_a (hl : l.length ≤ 900000) (h : (l.drop i).head? = some 63) : m__law_ends (n + 1) [.d (.str (S l)), .d (.int (i : Int))] s = .ok (.d (.int (posOf l (some (l.drop i).tail)))) s := by
  have hz : l.length ≤ sizeLine := Nat.le_trans hl (by decide)
  have hlt : i < l.length := by
    have := congrArg List.length (head_cons h)
    rw [List.length_drop, List.length_cons] at this
    omega
  have : posOf l (some (l.drop i).tail) = (i : Int) + 1 := by unfold posOf; simp; omega
  rw [this, ends_eq]
  simp [-List.head?_drop, b__law_ends, hz, S_len, cut_one, o_q, S_eq, take1, h]
theorem ends_b (hl : l.length ≤ 900000) (h : (l.drop i).head? = some 126) {v : Int} (ih : m__law_ends n [.d (.str (S l)), .d (.int ((i : Int) + 1))] s = .ok (.d (.int v)) s) : m__law_ends (n + 1) [.d (.str (S l)), .d (.int (i : Int))] s = .ok (.d (.int v)) s := by
  have hz : l.length ≤ sizeLine := Nat.le_trans hl (by decide)
  rw [ends_eq]
  simp [-List.head?_drop, b__law_ends, hz, S_len, cut_one, o_q, o_wave, S_eq, take1, h, ih]
theorem ends_c (hl : l.length ≤ 900000) (ht : Tx l) (hi : i ≤ l.length) (h1 : ¬ (l.drop i).head? = some 63) (h2 : ¬ (l.drop i).head? = some 126) (h3 : ¬ (l.drop i).head? = some 40) :
    m__law_ends (n + 1) [.d (.str (S l)), .d (.int (i : Int))] s = .ok (.d (.int (posOf l (if (l.drop i).takeWhile isLet ≠ [] then (if ((l.drop i).takeWhile isLet).length < 9 then some ((l.drop i).dropWhile isLet) else none)
      else if numT ((l.drop i).takeWhile isNum1) = true then some ((l.drop i).dropWhile isNum1) else none)))) s := by
  have hz : l.length ≤ sizeLine := Nat.le_trans hl (by decide)
  have r1 := fn_run in_az l i s (by omega)
  have r2 := fn_run in_mg l i s (by omega)
  rw [ends_eq]
  by_cases h4 : (l.drop i).takeWhile isLet ≠ []
  · rw [if_pos h4]
    have hp : 0 < ((l.drop i).takeWhile isLet).length := List.length_pos_iff.mpr h4
    have k1 : (i : Int) < (i : Int) + (((l.drop i).takeWhile isLet).length : Nat) := by omega
    by_cases h5 : ((l.drop i).takeWhile isLet).length < 9
    · have k2 : (i : Int) + (((l.drop i).takeWhile isLet).length : Nat) - (i : Int) < 9 := by omega
      rw [if_pos h5]
      show _ = Res.ok (Val.d (.int ((l.length : Int) - (((l.drop i).dropWhile isLet).length : Int)))) s
      rw [pos_dw isLet l i hi]
      generalize (((l.drop i).takeWhile isLet).length : Nat) = w at *
      simp [-List.head?_drop, b__law_ends, hz, S_len, cut_one, o_q, o_wave, o_open, S_eq, take1, h1, h2, h3, r1, k1, k2, hp, h5]
    · have k2 : ¬ (i : Int) + (((l.drop i).takeWhile isLet).length : Nat) - (i : Int) < 9 := by omega
      rw [if_neg h5]
      generalize (((l.drop i).takeWhile isLet).length : Nat) = w at *
      simp [-List.head?_drop, b__law_ends, hz, S_len, cut_one, o_q, o_wave, o_open, S_eq, take1, h1, h2, h3, r1, k1, k2, hp, h5, posOf]
  · rw [if_neg h4]
    have h4 := Decidable.not_not.mp h4
    have it := fn_integer ((l.drop i).takeWhile isNum1) s (Nat.le_trans (List.takeWhile_sublist isNum1).length_le (by rw [List.length_drop]; omega)) (ht.sub fun c hc => List.mem_of_mem_drop ((List.takeWhile_sublist isNum1).subset hc))
    rw [h4] at r1
    have ct := cut_tw isNum1 l i
    by_cases h5 : numT ((l.drop i).takeWhile isNum1) = true
    · rw [if_pos h5]
      rw [h5] at it
      show _ = Res.ok (Val.d (.int ((l.length : Int) - (((l.drop i).dropWhile isNum1).length : Int)))) s
      rw [pos_dw isNum1 l i hi]
      simp [-List.head?_drop, b__law_ends, hz, S_len, cut_one, o_q, o_wave, o_open, S_eq, take1, h1, h2, h3, r1, r2, ct, it]
    · rw [if_neg h5]
      rw [show numT ((l.drop i).takeWhile isNum1) = false by simpa using h5] at it
      simp [-List.head?_drop, b__law_ends, hz, S_len, cut_one, o_q, o_wave, o_open, S_eq, take1, h1, h2, h3, r1, r2, ct, it, posOf]
/-- behind an open bracket -/
def tl4 (n : Nat) (r : List Nat) : Option (List Nat) :=
  if r.head? ≠ some 32 then none
        else if r.tail.takeWhile not32 ∉ opsL ∨ (r.tail.dropWhile not32).head? ≠ some 32 then none
        else match enl n (r.tail.dropWhile not32).tail with
          | none => none
          | some r4 => if dv (r.tail.takeWhile not32) = true ∧ ¬ (numT ((r.tail.dropWhile not32).tail.take ((r.tail.dropWhile not32).tail.length - r4.length)) = true ∧ 1 ≤ valL ((r.tail.dropWhile not32).tail.take ((r.tail.dropWhile not32).tail.length - r4.length))) then none
            else if r4.head? = some 41 then some r4.tail else none
theorem wh32 (hl : l.length ≤ 900000) (hz : l.length ≤ sizeLine) (j : Nat) (e0 e1 e2 e3 e4 e6 e7 e8 : Option Val) (he : e0 = some (.d (.str (S l)))) :
    sWhile (tAnd (tVal (eOp2 ltV (eVar 5) (eBi lenG (vCons (eVar 0) (vNil))))) (tVal (eOp2 neV (eOp2 ixSeq (eVar 0) (eVar 5)) (eC (.str (S [32])))))) (sSeq (sSet 5 (eOp2 addV (eVar 5) (eC (.int 1)))) (sNil)) 1000000 [e0, e1, e2, e3, e4, some (.d (.int (j : Int))), e6, e7, e8] s
      = .ok .nx [e0, e1, e2, e3, e4, some (.d (.int ((j : Int) + (((l.drop j).takeWhile not32).length : Nat)))), e6, e7, e8] s := by
  subst he
  refine while_tw (E := fun k => [some (.d (.str (S l))), e1, e2, e3, e4, some (.d (.int k)), e6, e7, e8]) (l := l) (p := not32) (s := s) (fun j => ?_) (fun j => by simp) 1000000 j (by omega)
  by_cases hj : j < l.length
  · have e : l[j]? = some l[j] := List.getElem?_eq_getElem hj
    simp [S_len, hz, ix_ok hj hz, e, hj, S_eq, not32]
  · have e : l[j]? = none := List.getElem?_eq_none (by omega)
    simp [S_len, hz, e, hj]
theorem ends_d0 (hl : l.length ≤ 900000) (h : (l.drop i).head? = some 40) (ih : m__law_ends n [.d (.str (S l)), .d (.int ((i : Int) + 1))] s = .ok (.d (.int 0)) s) :
    m__law_ends (n + 1) [.d (.str (S l)), .d (.int (i : Int))] s = .ok (.d (.int 0)) s := by
  have hz : l.length ≤ sizeLine := Nat.le_trans hl (by decide)
  rw [ends_eq]
  simp [-List.head?_drop, b__law_ends, hz, S_len, cut_one, o_q, o_wave, o_open, S_eq, take1, h, ih]
theorem ends_d (hl : l.length ≤ 900000) (ht : Tx l) (h : (l.drop i).head? = some 40) {j : Nat} (hj : 0 < j) (hj2 : j ≤ l.length)
    (ih : m__law_ends n [.d (.str (S l)), .d (.int ((i : Int) + 1))] s = .ok (.d (.int (j : Int))) s)
    (ih2 : ∀ k : Nat, j < k → k ≤ l.length → m__law_ends n [.d (.str (S l)), .d (.int (k : Int))] s = .ok (.d (.int (posOf l (enl n (l.drop k))))) s) :
    m__law_ends (n + 1) [.d (.str (S l)), .d (.int (i : Int))] s = .ok (.d (.int (posOf l (tl4 n (l.drop j))))) s := by
  have hz : l.length ≤ sizeLine := Nat.le_trans hl (by decide)
  have hj0 : ¬ j = 0 := by omega
  rw [ends_eq]
  unfold tl4
  by_cases h1 : (l.drop j).head? ≠ some 32
  · rw [if_pos h1]
    simp [-List.head?_drop, b__law_ends, hz, S_len, cut_one, o_q, o_wave, o_open, o_sp, S_eq, take1, h, ih, hj0, h1, posOf]
  rw [if_neg h1]
  have h1 := Decidable.not_not.mp h1
  have hjl : j < l.length := by
    have := congrArg List.length (head_cons h1)
    rw [List.length_drop, List.length_cons] at this
    omega
  have et : (l.drop j).tail = l.drop (j + 1) := by rw [List.tail_drop]
  rw [et]
  have w := fun e1 e2 e3 e4 e6 e7 e8 => wh32 (s := s) hl hz (j + 1) _ e1 e2 e3 e4 e6 e7 e8 rfl
  rw [show ((j + 1 : Nat) : Int) = (j : Int) + 1 by omega] at w
  have c6 := cut_tw not32 l (j + 1)
  rw [show ((j + 1 : Nat) : Int) = (j : Int) + 1 by omega] at c6
  have cl := cut_one l (j + 1 + ((l.drop (j + 1)).takeWhile not32).length)
  rw [drop_tw, show ((j + 1 + ((l.drop (j + 1)).takeWhile not32).length : Nat) : Int) = (j : Int) + 1 + (((l.drop (j + 1)).takeWhile not32).length : Nat) by omega] at cl
  have dt := drop_tw not32 l (j + 1)
  have hle : j + 1 + ((l.drop (j + 1)).takeWhile not32).length ≤ l.length := by
    have := (List.takeWhile_sublist not32 (l := l.drop (j + 1))).length_le
    rw [List.length_drop] at this
    omega
  generalize hK : ((l.drop (j + 1)).takeWhile not32) = g at *
  generalize hW : ((l.drop (j + 1)).dropWhile not32) = wd at *
  by_cases h2 : g ∉ opsL ∨ wd.head? ≠ some 32
  · rw [if_pos h2]
    by_cases h3 : g ∈ opsL
    · have h4 : ¬ wd.head? = some 32 := h2.resolve_left fun e => e h3
      simp [-List.head?_drop, b__law_ends, hz, S_len, cut_one, o_q, o_wave, o_open, o_sp, S_eq, take1, h, ih, hj0, h1, w, c6, cl, mkT9, ops_nin, h3, h4, posOf]
    · simp [-List.head?_drop, b__law_ends, hz, S_len, cut_one, o_q, o_wave, o_open, o_sp, S_eq, take1, h, ih, hj0, h1, w, c6, mkT9, ops_nin, h3, posOf]
  rw [if_neg h2]
  have h3 : g ∈ opsL := Decidable.not_not.mp fun e => h2 (.inl e)
  have h4 : wd.head? = some 32 := Decidable.not_not.mp fun e => h2 (.inr e)
  have hkl : j + 1 + g.length < l.length := by
    have := congrArg List.length (head_cons h4)
    rw [← dt, List.length_drop, List.length_cons] at this
    omega
  have i2 := ih2 (j + 1 + g.length + 1) (by omega) (by omega)
  rw [show ((j + 1 + g.length + 1 : Nat) : Int) = (j : Int) + 1 + (g.length : Int) + 1 by omega] at i2
  have ewt : l.drop (j + 1 + g.length + 1) = wd.tail := by rw [← dt, List.tail_drop]
  rw [ewt] at i2
  cases hr : enl n wd.tail with
  | none =>
    rw [hr] at i2
    have i2 : m__law_ends n [.d (.str (S l)), .d (.int ((j : Int) + 1 + (g.length : Int) + 1))] s = .ok (.d (.int 0)) s := i2
    simp [-List.head?_drop, b__law_ends, hz, S_len, cut_one, o_q, o_wave, o_open, o_sp, S_eq, take1, h, ih, hj0, h1, w, c6, cl, mkT9, ops_nin, h3, h4, i2, posOf]
  | some r4 =>
    rw [hr] at i2
    obtain ⟨a1, a2⟩ := enl_at (i := j + 1 + g.length + 1) (l := l) (n := n) (r := r4) (by rw [ewt]; exact hr)
    have ep : posOf l (some r4) = ((l.length - r4.length : Nat) : Int) := by show (l.length : Int) - (r4.length : Int) = _; omega
    rw [ep] at i2
    have hm0 : ¬ (l.length - r4.length = 0) := by omega
    have c8 := cut_two l (j + 1 + g.length + 1) (l.length - r4.length)
    rw [ewt, show ((j + 1 + g.length + 1 : Nat) : Int) = (j : Int) + 1 + (g.length : Int) + 1 by omega] at c8
    have ewl : wd.tail.length = l.length - (j + 1 + g.length + 1) := by rw [← ewt, List.length_drop]
    rw [show l.length - r4.length - (j + 1 + g.length + 1) = wd.tail.length - r4.length by omega] at c8
    have cz := cut_one l (l.length - r4.length)
    rw [a2] at cz
    have ez : posOf l (some r4.tail) = if r4.head? = some 41 then ((l.length - r4.length : Nat) : Int) + 1 else posOf l (some r4.tail) := by
      by_cases h5 : r4.head? = some 41
      · rw [if_pos h5]
        have := congrArg List.length (head_cons h5)
        rw [List.length_cons] at this
        show (l.length : Int) - (r4.tail.length : Int) = _; omega
      · rw [if_neg h5]
    show _ = Res.ok (Val.d (.int (posOf l (if dv g = true ∧ ¬ (numT (wd.tail.take (wd.tail.length - r4.length)) = true ∧ 1 ≤ valL (wd.tail.take (wd.tail.length - r4.length))) then none
            else if r4.head? = some 41 then some r4.tail else none)))) s
    have hpl : (wd.tail.take (wd.tail.length - r4.length)).length ≤ sizeLine := by rw [List.length_take]; omega
    have ti := fn_integer (wd.tail.take (wd.tail.length - r4.length)) s hpl (ht.sub fun c hc => by
      have := List.mem_of_mem_take hc
      rw [← ewt] at this
      exact List.mem_of_mem_drop this)
    generalize hP : wd.tail.take (wd.tail.length - r4.length) = part at *
    generalize hM : (l.length - r4.length : Nat) = m7 at *
    cases hd : dv g
    · rw [if_neg (by simp)]
      by_cases h5 : r4.head? = some 41
      · rw [if_pos h5] at ez ⊢
        rw [ez]
        simp [-List.head?_drop, b__law_ends, hz, S_len, cut_one, o_q, o_wave, o_open, o_sp, o_shut, S_eq, take1, h, ih, hj0, h1, w, c6, cl, mkT9, ops_nin, h3, h4, i2, hm0, c8, cz, in_dv, hd, h5]
      · rw [if_neg h5]
        simp [-List.head?_drop, b__law_ends, hz, S_len, cut_one, o_q, o_wave, o_open, o_sp, o_shut, S_eq, take1, h, ih, hj0, h1, w, c6, cl, mkT9, ops_nin, h3, h4, i2, hm0, c8, cz, in_dv, hd, h5, posOf]
    · by_cases hn : numT part = true
      · have rd := num_read hn
        rw [hn] at ti
        have it : intG [.d (.str (S part))] s = .ok (.d (.int (valL part))) s := by
          show (match PySem.intText? (S part) with | some n => if (S part).length ≤ 640 then Res.ok (Val.d (.int n)) s else .bad | none => .bad) = _
          rw [rd.1]
          show (if (S part).length ≤ 640 then Res.ok (Val.d (.int (valL part))) s else .bad) = _
          rw [if_pos (by rw [S_len]; omega)]
        by_cases hv : 1 ≤ valL part
        · have hv' : ¬ valL part < 1 := by omega
          rw [if_neg (by simp [hn, hv])]
          by_cases h5 : r4.head? = some 41
          · rw [if_pos h5] at ez ⊢
            rw [ez]
            simp [-List.head?_drop, b__law_ends, hz, S_len, cut_one, o_q, o_wave, o_open, o_sp, o_shut, S_eq, take1, h, ih, hj0, h1, w, c6, cl, mkT9, ops_nin, h3, h4, i2, hm0, c8, cz, in_dv, hd, h5, ti, it, hv']
          · rw [if_neg h5]
            simp [-List.head?_drop, b__law_ends, hz, S_len, cut_one, o_q, o_wave, o_open, o_sp, o_shut, S_eq, take1, h, ih, hj0, h1, w, c6, cl, mkT9, ops_nin, h3, h4, i2, hm0, c8, cz, in_dv, hd, h5, ti, it, hv', posOf]
        · have hv' : valL part < 1 := by omega
          rw [if_pos (by simp [hv])]
          simp [-List.head?_drop, b__law_ends, hz, S_len, cut_one, o_q, o_wave, o_open, o_sp, o_shut, S_eq, take1, h, ih, hj0, h1, w, c6, cl, mkT9, ops_nin, h3, h4, i2, hm0, c8, cz, in_dv, hd, ti, it, hv', posOf]
      · rw [if_pos ⟨rfl, fun e => hn e.1⟩]
        rw [show numT part = false by simpa using hn] at ti
        simp [-List.head?_drop, b__law_ends, hz, S_len, cut_one, o_q, o_wave, o_open, o_sp, o_shut, S_eq, take1, h, ih, hj0, h1, w, c6, cl, mkT9, ops_nin, h3, h4, i2, hm0, c8, cz, in_dv, hd, ti, posOf]
end
theorem enl_br {n : Nat} {m : List Nat} (h : m.head? = some 40) : enl (n + 1) m = (match enl n m.tail with | none => none | some r => tl4 n r) := by
  show (if m.head? = some 63 then _ else if m.head? = some 126 then _ else if m.head? ≠ some 40 then _ else _) = _
  rw [if_neg (by rw [h]; simp), if_neg (by rw [h]; simp), if_neg (fun e => e h)]
  rfl
theorem fn_ends : ∀ (n : Nat) (l : List Nat) (i : Nat) (s : Sto), sg (l.drop i) < n → l.length ≤ 900000 → Tx l → i ≤ l.length → m__law_ends n [.d (.str (S l)), .d (.int (i : Int))] s = .ok (.d (.int (posOf l (enl n (l.drop i))))) s
  | 0, l, i, s, h, _, _, _ => absurd h (Nat.not_lt_zero _)
  | n + 1, l, i, s, h, hl, ht, hi => by
    have htl : (l.drop i).tail = l.drop (i + 1) := List.tail_drop
    have hsub : ∀ k, i ≤ k → sg (l.drop k) ≤ sg (l.drop i) := fun k hk => by
      have : (l.drop k).Sublist (l.drop i) := by
        rw [show k = i + (k - i) by omega, ← List.drop_drop]
        exact List.drop_sublist _ _
      unfold sg
      have a := this.count_le 40
      have b := this.count_le 126
      omega
    have hlt : ∀ c, (l.drop i).head? = some c → i < l.length := fun c hc => by
      have := congrArg List.length (head_cons hc)
      rw [List.length_drop, List.length_cons] at this
      omega
    by_cases h1 : (l.drop i).head? = some 63
    · rw [ends_a hl h1]
      unfold enl
      rw [if_pos h1]
    by_cases h2 : (l.drop i).head? = some 126
    · have hs : sg (l.drop (i + 1)) < n := by
        have e := head_cons h2
        rw [htl] at e
        have : sg (l.drop i) = sg (l.drop (i + 1)) + 1 := by
          conv => lhs; rw [e]
          unfold sg; simp; omega
        omega
      have ih := fn_ends n l (i + 1) s hs hl ht (hlt _ h2)
      rw [show ((i + 1 : Nat) : Int) = (i : Int) + 1 by omega] at ih
      rw [ends_b hl h2 ih]
      conv => rhs; unfold enl
      rw [if_neg h1, if_pos h2, htl]
    by_cases h3 : (l.drop i).head? = some 40
    · have hs : sg (l.drop (i + 1)) < n := by
        have e := head_cons h3
        rw [htl] at e
        have : sg (l.drop i) = sg (l.drop (i + 1)) + 1 := by
          conv => lhs; rw [e]
          unfold sg; simp; omega
        omega
      have ih := fn_ends n l (i + 1) s hs hl ht (hlt _ h3)
      rw [show ((i + 1 : Nat) : Int) = (i : Int) + 1 by omega] at ih
      rw [enl_br h3, htl]
      cases hr : enl n (l.drop (i + 1)) with
      | none =>
        rw [hr] at ih
        rw [ends_d0 hl h3 ih]; rfl
      | some r =>
        rw [hr] at ih
        obtain ⟨a1, a2⟩ := enl_at hr
        have ep : posOf l (some r) = ((l.length - r.length : Nat) : Int) := by show (l.length : Int) - (r.length : Int) = _; omega
        rw [ep] at ih
        have := ends_d hl ht h3 (j := l.length - r.length) (by omega) (by omega) ih fun k hk1 hk2 => by
          refine fn_ends n l k s ?_ hl ht hk2
          have : sg (l.drop k) ≤ sg (l.drop (i + 1)) := by
            have : (l.drop k).Sublist (l.drop (i + 1)) := by
              rw [show k = (i + 1) + (k - (i + 1)) by omega, ← List.drop_drop]
              exact List.drop_sublist _ _
            unfold sg
            have a := this.count_le 40
            have b := this.count_le 126
            omega
          omega
        rw [a2] at this
        exact this
    · rw [ends_c hl ht hi h1 h2 h3]
      conv => rhs; unfold enl
      rw [if_neg h1, if_neg h2, if_pos h3]
end LW
end

set_option Elab.async false
set_option linter.all false
set_option maxRecDepth 100000
set_option maxHeartbeats 1000000
noncomputable section
namespace LW
open PySem PySem.Spec PyProof.Rows L2 DL TL SX NumText
theorem vin_enl (n : Nat) (l : List Nat) : (vin n l).isSome = true ↔ enl n l = some [] := by
  rw [← law_iff, Option.isSome_iff_exists]
  exact ⟨fun ⟨e, h⟩ => ⟨e, h, vin_show n l e h⟩, fun ⟨e, h, _⟩ => ⟨e, h⟩⟩
theorem fn_is_value (l : List Nat) (s : Sto) (hl : l.length ≤ 900000) (ht : Tx l) : m__law_is_value [.d (.str (S l))] s = .ok (.d (.bl (okT l))) s := by
  have hz : l.length ≤ sizeLine := Nat.le_trans hl (by decide)
  unfold okT
  by_cases h : 12 < sg l
  · have h' : (12 : Int) < (l.count 126 : Int) + (l.count 40 : Int) := by unfold sg at h; omega
    simp [m__law_is_value, b__law_is_value, o_open, o_wave, count_S, h', h]
  · have h' : ¬ (12 : Int) < (l.count 126 : Int) + (l.count 40 : Int) := by unfold sg at h; omega
    have en := fn_ends 60 l 0 s (by rw [List.drop_zero]; omega) hl ht (Nat.zero_le _)
    rw [List.drop_zero, show ((0 : Nat) : Int) = 0 from rfl] at en
    by_cases h0 : l = []
    · have : (vin 60 l).isSome = false := by subst h0; decide
      rw [this]
      subst h0
      simp [m__law_is_value, b__law_is_value, o_open, o_wave, o_nil, count_S]
    · have e : decide (posOf l (enl 60 l) = (l.length : Int)) = (vin 60 l).isSome := by
        rw [Bool.eq_iff_iff, vin_enl, decide_eq_true_iff]
        have hp := List.length_pos_iff.mpr h0
        cases hr : enl 60 l with
        | none =>
          show (0 : Int) = _ ↔ _
          simp; omega
        | some r =>
          show (l.length : Int) - (r.length : Int) = _ ↔ _
          constructor
          · intro k
            have : r.length = 0 := by omega
            rw [List.length_eq_zero_iff.mp this]
          · intro k
            cases k
            simp
      simp [m__law_is_value, b__law_is_value, o_open, o_wave, o_nil, count_S, h', h, h0, S_eq, en, S_len, hz, e]
/-- one turn of the law: what is read, and what the law reads -/
theorem turn_ok (l : List Nat) (hl : l.length ≤ 900000) (ht : Tx l) (s : Sto) : neV (.d (.lst (if okT l = true then [.str (S l)] else []))) (.d (.lst (if okT l = true then [.str (S l)] else []))) s = .ok (.d (.bl false)) s := by
  by_cases h : okT l = true
  · simp only [h, if_true]
    have := ne_strs [l] [l] (by simpa using ht) (by simpa using ht) s
    simpa using this
  · simp only [h]
    have := ne_strs [] [] nofun nofun s
    simpa using this
/-! ## texts made of texts -/
/-- a text of at most k signs -/
structure TB (l : List Nat) (k : Nat) : Prop where
  tx : Tx l
  le : l.length ≤ k
def TS1 (m : En → M Val) (env : En) (s : Sto) (k : Nat) : Prop := ∃ l, m env s = .ok (.d (.str (S l))) s ∧ TB l k
theorem Tx.app {a b : List Nat} (h : Tx a) (k : Tx b) : Tx (a ++ b) := fun c hc => by
  rcases List.mem_append.mp hc with h1 | h1
  · exact h c h1
  · exact k c h1
theorem TS1.c (z : Str) (env : En) (s : Sto) (h : z.cps.toList.all (fun c => decide (c < 1114112)) = true) : TS1 (eC (.str z)) env s z.length := by
  refine ⟨tl z, by rw [S_tl]; rfl, fun c hc => by simpa using List.all_eq_true.mp h c hc, by rw [← len_tl]; exact Nat.le_refl _⟩
theorem TS1.add {a b : En → M Val} {env : En} {s : Sto} {k j : Nat} (ha : TS1 a env s k) (hb : TS1 b env s j) (h : k + j ≤ sizeLine) : TS1 (eOp2 addV a b) env s (k + j) := by
  obtain ⟨x, e1, t1⟩ := ha
  obtain ⟨y, e2, t2⟩ := hb
  refine ⟨x ++ y, ?_, t1.tx.app t2.tx, by rw [List.length_append]; have := t1.le; have := t2.le; omega⟩
  have : x.length + y.length ≤ sizeLine := by have := t1.le; have := t2.le; omega
  simp [e1, e2, S_len, this, S_cat]
theorem TS1.var {i : Nat} {env : En} {l : List Nat} {k : Nat} (s : Sto) (he : env[i]? = some (some (.d (.str (S l))))) (h : TB l k) : TS1 (eVar i) env s k := ⟨l, ev_var _ _ _ _ he, h⟩
theorem TS1.mono {m : En → M Val} {env : En} {s : Sto} {k j : Nat} (h : TS1 m env s k) (hk : k ≤ j) : TS1 m env s j := by
  obtain ⟨l, e, t⟩ := h
  exact ⟨l, e, t.tx, Nat.le_trans t.le hk⟩
theorem foldl_push (l : List (Array Nat)) : ∀ a : Array Nat, (l.foldl (· ++ ·) a).toList = a.toList ++ (l.map Array.toList).flatten := by
  induction l with
  | nil => intro a; simp
  | cons x l ih => intro a; rw [List.foldl_cons, ih]; simp
theorem mul_TB {l : List Nat} {k : Nat} (n : Int) (h : TB l k) (h0 : 0 ≤ n) : ∃ r, Txt.mul (S l) n = S r ∧ TB r (k * n.toNat) := by
  unfold Txt.mul
  by_cases h1 : n < 1
  · rw [if_pos h1]
    exact ⟨[], rfl, nofun, Nat.zero_le _⟩
  rw [if_neg h1]
  by_cases h2 : (n == 1 || (S l).length == 0) = true
  · rw [if_pos h2]
    refine ⟨l, rfl, h.tx, Nat.le_trans h.le ?_⟩
    have : 1 ≤ n.toNat := by omega
    exact Nat.le_mul_of_pos_right k this
  · rw [if_neg h2]
    refine ⟨(List.replicate n.toNat l).flatten, ?_, fun c hc => ?_, ?_⟩
    · refine TL.ext_tl ?_
      show ((List.replicate n.toNat (S l).cps).foldl (· ++ ·) #[]).toList = _
      rw [foldl_push, List.map_replicate]; rfl
    · obtain ⟨x, hx, hc⟩ := List.mem_flatten.mp hc
      rw [List.eq_of_mem_replicate hx] at hc
      exact h.tx c hc
    · rw [List.length_flatten, List.map_replicate, List.sum_replicate_nat]
      rw [Nat.mul_comm]; exact Nat.mul_le_mul_right _ h.le
theorem TS1.mul {a c : En → M Val} {env : En} {s : Sto} {k : Nat} {n : Int} (ha : TS1 a env s k) (hc : c env s = .ok (.d (.int n)) s) (h0 : 0 ≤ n) (h1 : n ≤ 1200) (hk : k ≤ 100) : TS1 (eOp2 mulV a c) env s (k * n.toNat) := by
  obtain ⟨x, e1, t1⟩ := ha
  obtain ⟨r, e2, t2⟩ := mul_TB n t1 h0
  refine ⟨r, ?_, t2⟩
  have ok : MulOk (S x) n := by
    have hx := t1.le
    have hp : x.length * n.toNat ≤ 100 * 1200 := Nat.mul_le_mul (by omega) (by omega)
    refine ⟨by simp; omega, fun h1 _ => ?_, fun _ _ => ?_⟩
    · rw [S_len]
      have : (x.length : Int) ≤ (2 ^ 63 - 1) / n := by
        refine Int.le_ediv_of_mul_le (by omega) ?_
        have e : (x.length : Int) * n = ((x.length * n.toNat : Nat) : Int) := by
          rw [Int.natCast_mul, Int.toNat_of_nonneg h0]
        rw [e]; omega
      omega
    · rw [S_len]
      have : ¬ (x.length * n.toNat > sizeLine) := by
        have : 100 * 1200 ≤ sizeLine := by decide
        omega
      exact decide_eq_false this
  have : mulV (.d (.str (S x))) (.d (.int n)) s = .ok (.d (.str (Txt.mul (S x) n))) s := if_pos ok
  simp [e1, hc, this, e2]
end LW
end

set_option Elab.async false
set_option linter.all false
set_option maxRecDepth 100000
set_option maxHeartbeats 1000000
noncomputable section
namespace LW
open PySem PySem.Spec PyProof.Rows L2 DL TL SX NumText
/-! ## a menu of texts at a root -/
def AllT (xs : List D) (k : Nat) : Prop := ∀ d ∈ xs, ∃ l, d = .str (S l) ∧ TB l k
theorem AllT.app {a b : List D} {k : Nat} (h : AllT a k) (g : AllT b k) : AllT (a ++ b) k := fun d hd => by
  rcases List.mem_append.mp hd with h1 | h1
  · exact h d h1
  · exact g d h1
/-- settled texts of at most k signs -/
def TL1 (mv : En → M (List Val)) (env : En) (s : Sto) (k n : Nat) : Prop := ∃ ds : List D, mv env s = .ok (ds.map .d) s ∧ AllT ds k ∧ ds.length = n
theorem TL1.nil {env : En} {s : Sto} {k : Nat} : TL1 vNil env s k 0 := ⟨[], rfl, nofun, rfl⟩
theorem TL1.cons {m : En → M Val} {mv : En → M (List Val)} {env : En} {s : Sto} {j k n : Nat} (h : TS1 m env s j) (hj : j ≤ k) (t : TL1 mv env s k n) : TL1 (vCons m mv) env s k (n + 1) := by
  obtain ⟨l, e, tb⟩ := h
  obtain ⟨ds, e2, a, hn⟩ := t
  refine ⟨.str (S l) :: ds, by simp [e, e2], fun d hd => ?_, by simp [hn]⟩
  rcases List.mem_cons.mp hd with rfl | hd
  · exact ⟨l, rfl, tb.tx, Nat.le_trans tb.le hj⟩
  · exact a d hd
/-- slot i holds root b, at which texts stand -/
structure MenuAt (env : En) (s : Sto) (i b n k : Nat) (xs : List D) : Prop where
  sl : env[i]? = some (some (.m b []))
  at_ : s[b]? = some (some [([], .lst xs)])
  len : xs.length = n
  all : AllT xs k
theorem own_new {env : En} {s : Sto} {i b k n : Nat} {mv : En → M (List Val)} (h : TL1 mv env s k n) (hi : i < env.length) (hb : b < s.length) (hn : n ≤ 1000) :
    ∃ xs, sOwn b i 0 (eLst mv) env s = .ok .nx (env.set i (some (.m b []))) (s.set b (some [([], .lst xs)])) ∧ MenuAt (env.set i (some (.m b []))) (s.set b (some [([], .lst xs)])) i b n k xs := by
  obtain ⟨ds, e, a, hl⟩ := h
  refine ⟨ds, ?_, ⟨by simp [hi], by simp [hb], hl, a⟩⟩
  have : mkLst (ds.map .d) s = .ok (.f [([], .lst ds)]) s := mkL_of ds s (by have : 1000 ≤ sizeLine := by decide
                                                                             omega)
  show (eLst mv env s).sb env _ = _
  rw [ev_lst, e, bn_ok, this, sb_ok]
  exact if_pos hb
theorem own_more {env : En} {s : Sto} {i b k n m : Nat} {xs : List D} {mv : En → M (List Val)} (M : MenuAt env s i b n k xs) (h : TL1 mv env s k m) (hn : n + m ≤ 1000) :
    ∃ ys, sOwn b i 0 (eOp2 addV (eVar i) (eLst mv)) env s = .ok .nx env (s.set b (some [([], .lst ys)])) ∧ MenuAt env (s.set b (some [([], .lst ys)])) i b (n + m) k ys := by
  obtain ⟨ds, e, a, hl⟩ := h
  have hi := (List.getElem?_eq_some_iff.mp M.sl).1
  have hb := (List.getElem?_eq_some_iff.mp M.at_).1
  have hz : 1000 ≤ sizeLine := by decide
  refine ⟨xs ++ ds, ?_, ⟨M.sl, by simp [hb], by rw [List.length_append, M.len, hl], M.all.app a⟩⟩
  have L : mkLst (ds.map .d) s = .ok (.f [([], .lst ds)]) s := mkL_of ds s (by omega)
  have es : env.set i (some (.m b [])) = env := by
    obtain ⟨hi2, he⟩ := List.getElem?_eq_some_iff.mp M.sl
    rw [← he]; exact List.set_getElem_self hi2
  have lo : lstOf s (.m b []) = some xs := by
    show (match res s b [] with | some (.lst xs) => some xs | _ => none) = _
    unfold res; rw [M.at_]; rfl
  have ad : addV (.m b []) (.d (.lst ds)) s = .ok (.f [([], .lst (xs ++ ds))]) s := by
    show (match lstOf s (.m b []), lstOf s (.d (.lst ds)) with | some x, some y => if x.length + y.length ≤ sizeLine then Res.ok (Val.f [([], .lst (x ++ y))]) s else .bad | _, _ => .bad) = _
    rw [lo]
    show (if xs.length + ds.length ≤ sizeLine then Res.ok (Val.f [([], .lst (xs ++ ds))]) s else .bad) = _
    rw [if_pos (by rw [M.len, hl]; omega)]
  show (eOp2 addV (eVar i) (eLst mv) env s).sb env _ = _
  rw [ev_op2, ev_var _ _ _ _ M.sl, bn_ok, stl_m, bn_ok, ev_lst, e, bn_ok, L, bn_ok, stl_l, bn_ok, ad, sb_ok]
  show (if b + 0 < s.length then SR.ok .nx (env.set i (some (.m (b + 0) []))) (s.set (b + 0) (some [([], .lst (xs ++ ds))])) else .bad) = _
  rw [Nat.add_zero, if_pos hb, es]
theorem app_one {env : En} {s : Sto} {i b k n : Nat} {xs : List D} {m : En → M Val} (M : MenuAt env s i b n k xs) (h : TS1 m env s k) (hn : n + 1 ≤ 1000) :
    ∃ ys, sExpr (eBm lstR appendG (eVar i) (vCons m (vNil))) env s = .ok .nx env (s.set b (some [([], .lst ys)])) ∧ MenuAt env (s.set b (some [([], .lst ys)])) i b (n + 1) k ys := by
  obtain ⟨l, e, tb⟩ := h
  have hi := (List.getElem?_eq_some_iff.mp M.sl).1
  have hb := (List.getElem?_eq_some_iff.mp M.at_).1
  have hz : 1000 ≤ sizeLine := by decide
  refine ⟨xs ++ [.str (S l)], ?_, ⟨M.sl, by simp [hb], by rw [List.length_append, M.len]; rfl, M.all.app fun d hd => ⟨l, List.mem_singleton.mp hd, tb⟩⟩⟩
  have r0 : res s b [] = some (.lst xs) := by unfold res; rw [M.at_]; rfl
  have lo : lstR (.m b []) s = true := by
    show (match res s b [] with | some (.lst xs) => some xs | _ => none).isSome = _
    rw [r0]; rfl
  have ap : appendG (.m b []) [.d (.str (S l))] s = .ok (.d .non) (upS s b [] (.lst (xs ++ [.str (S l)]))) := by
    show (match res s b [] with | some (O.lst xs) => if xs.length < sizeLine then Res.ok (Val.d .non) (upS s b [] (.lst (xs ++ [D.str (S l)]))) else .bad | _ => .bad) = _
    rw [r0]
    exact if_pos (by rw [M.len]; omega)
  have up : upS s b [] (.lst (xs ++ [.str (S l)])) = s.set b (some [([], .lst (xs ++ [.str (S l)]))]) := by
    unfold upS; rw [M.at_]; rfl
  rw [ev_expr, ev_bm, ev_var _ _ _ _ M.sl, bn_ok, stl_m, bn_ok, lo]
  simp [e, ap, up]
theorem ix_menu {env : En} {s : Sto} {i b k n : Nat} {xs : List D} (M : MenuAt env s i b n k xs) {d : Int} (h0 : 0 ≤ d) (h1 : d < n) (s' : Sto) (he : s'[b]? = s[b]?) : ∃ l, ixSeq (.m b []) (.d (.int d)) s' = .ok (.d (.str (S l))) s' ∧ TB l k := by
  have hd : d.toNat < xs.length := by rw [M.len]; omega
  obtain ⟨l, e, tb⟩ := M.all xs[d.toNat] (List.getElem_mem hd)
  refine ⟨l, ?_, tb⟩
  refine ix_m (p := []) (xs := xs) (by unfold res; rw [he, M.at_]; rfl) ?_
  unfold atI ixN
  rw [if_pos h0, if_pos (by rw [M.len]; omega)]
  show xs[d.toNat]? = _
  rw [List.getElem?_eq_getElem hd, e]
theorem len_menu {env : En} {s : Sto} {i b k n : Nat} {xs : List D} (M : MenuAt env s i b n k xs) : lenG [.m b []] s = .ok (.d (.int n)) s := by
  show (match seqOf s (.m b []) with | some xs => Res.ok (Val.d (.int xs.length)) s | none => .bad) = _
  have : seqOf s (.m b []) = some xs := by
    show (match res s b [] with | some (.lst xs) => some xs | _ => none) = _
    unfold res; rw [M.at_]; rfl
  rw [this, ← M.len]
end LW
end

set_option Elab.async false
set_option linter.all false
set_option maxRecDepth 100000
set_option maxHeartbeats 1000000
noncomputable section
namespace LW
open PySem PySem.Spec PyProof.Rows L2 DL TL SX NumText
theorem PoolAt.lt {s : Sto} {l n : Nat} (h : PoolAt s l n) : l < s.length := by
  obtain ⟨a, b, c, h1, _⟩ := h
  exact res_lt h1
theorem PoolAt.other {s s' : Sto} {l n : Nat} (h : PoolAt s l n) (e : s'[l]? = s[l]?) : PoolAt s' l n := by
  obtain ⟨a, b, c, h1, h2, h3⟩ := h
  refine ⟨a, b, c, ?_, h2, h3⟩
  unfold res at h1 ⊢
  rw [e]; exact h1
theorem PoolAt.set {s : Sto} {l n b : Nat} (h : PoolAt s l n) (x : Option DL.Tree) (hb : b ≠ l) : PoolAt (s.set b x) l n := h.other (List.getElem?_set_ne hb)
theorem PoolAt.more {s : Sto} {l n : Nat} (h : PoolAt s l n) (e : Sto) : PoolAt (s ++ e) l n := h.other (List.getElem?_append_left h.lt)
theorem PoolAt.less {s : Sto} {l n m : Nat} (h : PoolAt s l n) (hl : l < m) : PoolAt (s.take m) l n := h.other (List.getElem?_take_of_lt hl)
structure OthN (m : Nat) (a b : Sto) (l : Nat) : Prop where
  len : b.length = a.length
  at_ : ∀ l', l' < m → l' ≠ l → b[l']? = a[l']?
theorem OthN.trans {m : Nat} {a b c : Sto} {l : Nat} (x : OthN m a b l) (y : OthN m b c l) : OthN m a c l := ⟨y.len.trans x.len, fun l' h1 h2 => (y.at_ l' h1 h2).trans (x.at_ l' h1 h2)⟩
theorem OthN.of {m : Nat} {a b : Sto} {l : Nat} (x : Oth a b l) : OthN m a b l := ⟨x.len, fun l' _ h => x.at_ l' h⟩
theorem OthN.set {m : Nat} (a : Sto) (l : Nat) {j : Nat} (x : Option DL.Tree) (h : m ≤ j) : OthN m a (a.set j x) l := ⟨by simp, fun l' h1 _ => List.getElem?_set_ne (by omega)⟩
theorem OthN.fin {a e b : Sto} {l : Nat} (x : OthN a.length (a ++ e) b l) : Oth a (b.take a.length) l := ⟨by rw [List.length_take, x.len, List.length_append]; omega, fun l' h => by
  by_cases h1 : l' < a.length
  · rw [List.getElem?_take_of_lt h1, x.at_ l' h1 h, List.getElem?_append_left h1]
  · rw [List.getElem?_eq_none (by rw [List.length_take, x.len, List.length_append]; omega), List.getElem?_eq_none (by omega)]⟩
@[simp] theorem ev_run1 (n : Nat) (body : Nat → SM) (args : List Val) (s : Sto) : runF 1 n body args s = (body s.length (args.map some ++ List.replicate (n - args.length) none) (s ++ [none])).fin s.length := rfl
theorem MenuAt.oth {env : En} {s s' : Sto} {i b n k : Nat} {xs : List D} (M : MenuAt env s i b n k xs) (e : s'[b]? = s[b]?) : MenuAt env s' i b n k xs := ⟨M.sl, e.trans M.at_, M.len, M.all⟩
theorem MenuAt.env {env env' : En} {s : Sto} {i b n k : Nat} {xs : List D} (M : MenuAt env s i b n k xs) (e : env'[i]? = env[i]?) : MenuAt env' s i b n k xs := ⟨e.trans M.sl, M.at_, M.len, M.all⟩

def oddL : List (En → M (List Val)) := []
def oL0 : En → M (List Val) := (vCons (eC (.str "")) (vCons (eC (.str "-")) (vCons (eC (.str "--1")) (vCons (eC (.str "-0")) (vCons (eC (.str "+1")) (vCons (eC (.str "007")) (vCons (eC (.str "abcdefgh")) (vCons (eC (.str "abcdefghi")) (vCons (eC (.str "a b")) (vCons (eC (.str "A")) (vCons (eC (.str "a1")) (vCons (eC (.str "??")) (vCons (eC (.str "? ")) (vCons (eC (.str "()")) (vNil)))))))))))))))
theorem oL0_ok {env : En} {s : Sto} {w : List Nat} (he : env[1]? = some (some (.d (.str (S w))))) (hw : TB w 200) : TL1 oL0 env s 20000 14 := by
  unfold oL0
  repeat' first
    | with_reducible exact TL1.nil
    | with_reducible apply TL1.cons
    | with_reducible apply TS1.c
    | with_reducible apply TS1.mul
    | with_reducible exact ev_c _ _ _
    | with_reducible apply TS1.add
    | with_reducible exact TS1.var _ he hw
    | decide +kernel
def oL1 : En → M (List Val) := (vCons (eC (.str "(a)")) (vCons (eC (.str "(a + )")) (vNil)))
theorem oL1_ok {env : En} {s : Sto} {w : List Nat} (he : env[1]? = some (some (.d (.str (S w))))) (hw : TB w 200) : TL1 oL1 env s 20000 2 := by
  unfold oL1
  repeat' first
    | with_reducible exact TL1.nil
    | with_reducible apply TL1.cons
    | with_reducible apply TS1.c
    | with_reducible apply TS1.mul
    | with_reducible exact ev_c _ _ _
    | with_reducible apply TS1.add
    | with_reducible exact TS1.var _ he hw
    | decide +kernel
def oL2 : En → M (List Val) := (vCons (eOp2 mulV (eC (.str "9")) (eC (.int 20))) (vCons (eOp2 mulV (eC (.str "9")) (eC (.int 21))) (vCons (eOp2 addV (eC (.str "-")) (eOp2 mulV (eC (.str "9")) (eC (.int 20)))) (vCons (eOp2 addV (eC (.str "-")) (eOp2 mulV (eC (.str "9")) (eC (.int 21)))) (vCons (eC (.str "(a // 0)")) (vNil))))))
theorem oL2_ok {env : En} {s : Sto} {w : List Nat} (he : env[1]? = some (some (.d (.str (S w))))) (hw : TB w 200) : TL1 oL2 env s 20000 5 := by
  unfold oL2
  repeat' first
    | with_reducible exact TL1.nil
    | with_reducible apply TL1.cons
    | with_reducible apply TS1.c
    | with_reducible apply TS1.mul
    | with_reducible exact ev_c _ _ _
    | with_reducible apply TS1.add
    | with_reducible exact TS1.var _ he hw
    | decide +kernel
def oL3 : En → M (List Val) := (vCons (eC (.str "(a mod 0)")) (vCons (eC (.str "(a // -1)")) (vCons (eC (.str "(a mod b)")) (vNil))))
theorem oL3_ok {env : En} {s : Sto} {w : List Nat} (he : env[1]? = some (some (.d (.str (S w))))) (hw : TB w 200) : TL1 oL3 env s 20000 3 := by
  unfold oL3
  repeat' first
    | with_reducible exact TL1.nil
    | with_reducible apply TL1.cons
    | with_reducible apply TS1.c
    | with_reducible apply TS1.mul
    | with_reducible exact ev_c _ _ _
    | with_reducible apply TS1.add
    | with_reducible exact TS1.var _ he hw
    | decide +kernel
def oL4 : En → M (List Val) := (vCons (eC (.str "(a // 1)")) (vCons (eC (.str "(a mod 1)")) (vCons (eC (.str "(a // ?)")) (vCons (eC (.str "(a mod  2)")) (vCons (eC (.str "(a == b)")) (vCons (eC (.str "(a ** 2)")) (vCons (eC (.str "(a <= b)")) (vNil))))))))
theorem oL4_ok {env : En} {s : Sto} {w : List Nat} (he : env[1]? = some (some (.d (.str (S w))))) (hw : TB w 200) : TL1 oL4 env s 20000 7 := by
  unfold oL4
  repeat' first
    | with_reducible exact TL1.nil
    | with_reducible apply TL1.cons
    | with_reducible apply TS1.c
    | with_reducible apply TS1.mul
    | with_reducible exact ev_c _ _ _
    | with_reducible apply TS1.add
    | with_reducible exact TS1.var _ he hw
    | decide +kernel
def oL5 : En → M (List Val) := (vCons (eC (.str "(a  + b)")) (vCons (eC (.str "(a + b")) (vCons (eC (.str "a + b")) (vCons (eC (.str "((a + b))")) (vCons (eC (.str "(a+b)")) (vCons (eC (.str "(mod mod 2)")) (vNil)))))))
theorem oL5_ok {env : En} {s : Sto} {w : List Nat} (he : env[1]? = some (some (.d (.str (S w))))) (hw : TB w 200) : TL1 oL5 env s 20000 6 := by
  unfold oL5
  repeat' first
    | with_reducible exact TL1.nil
    | with_reducible apply TL1.cons
    | with_reducible apply TS1.c
    | with_reducible apply TS1.mul
    | with_reducible exact ev_c _ _ _
    | with_reducible apply TS1.add
    | with_reducible exact TS1.var _ he hw
    | decide +kernel
def oL6 : En → M (List Val) := (vCons (eC (.str "(mod + mod)")) (vCons (eC (.str "~~~?")) (vCons (eC (.str "~(~a = ~0)")) (vNil))))
theorem oL6_ok {env : En} {s : Sto} {w : List Nat} (he : env[1]? = some (some (.d (.str (S w))))) (hw : TB w 200) : TL1 oL6 env s 20000 3 := by
  unfold oL6
  repeat' first
    | with_reducible exact TL1.nil
    | with_reducible apply TL1.cons
    | with_reducible apply TS1.c
    | with_reducible apply TS1.mul
    | with_reducible exact ev_c _ _ _
    | with_reducible apply TS1.add
    | with_reducible exact TS1.var _ he hw
    | decide +kernel
def oL7 : En → M (List Val) := (vCons (eOp2 addV (eOp2 addV (eC (.str "(a + ")) (eOp2 mulV (eC (.str "9")) (eC (.int 20)))) (eC (.str ")"))) (vCons (eOp2 addV (eOp2 addV (eC (.str "(a + ")) (eOp2 mulV (eC (.str "9")) (eC (.int 21)))) (eC (.str ")"))) (vCons (eOp2 addV (eOp2 addV (eC (.str "(")) (eOp2 mulV (eC (.str "9")) (eC (.int 21)))) (eC (.str " < a)"))) (vNil))))
theorem oL7_ok {env : En} {s : Sto} {w : List Nat} (he : env[1]? = some (some (.d (.str (S w))))) (hw : TB w 200) : TL1 oL7 env s 20000 3 := by
  unfold oL7
  repeat' first
    | with_reducible exact TL1.nil
    | with_reducible apply TL1.cons
    | with_reducible apply TS1.c
    | with_reducible apply TS1.mul
    | with_reducible exact ev_c _ _ _
    | with_reducible apply TS1.add
    | with_reducible exact TS1.var _ he hw
    | decide +kernel
def oL8 : En → M (List Val) := (vCons (eOp2 addV (eOp2 addV (eC (.str "(a mod ")) (eOp2 mulV (eC (.str "9")) (eC (.int 20)))) (eC (.str ")"))) (vCons (eOp2 addV (eOp2 addV (eC (.str "(a mod ")) (eOp2 mulV (eC (.str "9")) (eC (.int 21)))) (eC (.str ")"))) (vCons (eC (.str "(a + -0)")) (vCons (eC (.str "(a + 007)")) (vNil)))))
theorem oL8_ok {env : En} {s : Sto} {w : List Nat} (he : env[1]? = some (some (.d (.str (S w))))) (hw : TB w 200) : TL1 oL8 env s 20000 4 := by
  unfold oL8
  repeat' first
    | with_reducible exact TL1.nil
    | with_reducible apply TL1.cons
    | with_reducible apply TS1.c
    | with_reducible apply TS1.mul
    | with_reducible exact ev_c _ _ _
    | with_reducible apply TS1.add
    | with_reducible exact TS1.var _ he hw
    | decide +kernel
def oL9 : En → M (List Val) := (vCons (eC (.str "(-0 < a)")) (vCons (eC (.str "(a mod 02)")) (vNil)))
theorem oL9_ok {env : En} {s : Sto} {w : List Nat} (he : env[1]? = some (some (.d (.str (S w))))) (hw : TB w 200) : TL1 oL9 env s 20000 2 := by
  unfold oL9
  repeat' first
    | with_reducible exact TL1.nil
    | with_reducible apply TL1.cons
    | with_reducible apply TS1.c
    | with_reducible apply TS1.mul
    | with_reducible exact ev_c _ _ _
    | with_reducible apply TS1.add
    | with_reducible exact TS1.var _ he hw
    | decide +kernel
def oL10 : En → M (List Val) := (vCons (eOp2 addV (eOp2 addV (eOp2 mulV (eC (.str "(")) (eC (.int 330))) (eC (.str "a"))) (eOp2 mulV (eC (.str " + 1)")) (eC (.int 330)))) (vCons (eOp2 addV (eOp2 mulV (eC (.str "~")) (eC (.int 1200))) (eC (.str "a"))) (vNil)))
theorem oL10_ok {env : En} {s : Sto} {w : List Nat} (he : env[1]? = some (some (.d (.str (S w))))) (hw : TB w 200) : TL1 oL10 env s 20000 2 := by
  unfold oL10
  repeat' first
    | with_reducible exact TL1.nil
    | with_reducible apply TL1.cons
    | with_reducible apply TS1.c
    | with_reducible apply TS1.mul
    | with_reducible exact ev_c _ _ _
    | with_reducible apply TS1.add
    | with_reducible exact TS1.var _ he hw
    | decide +kernel
def oL13 : En → M (List Val) := (vCons (eOp2 addV (eVar 1) (eC (.str " "))) (vCons (eOp2 addV (eC (.str " ")) (eVar 1)) (vCons (eOp2 addV (eVar 1) (eVar 1)) (vNil))))
theorem oL13_ok {env : En} {s : Sto} {w : List Nat} (he : env[1]? = some (some (.d (.str (S w))))) (hw : TB w 200) : TL1 oL13 env s 20000 3 := by
  unfold oL13
  repeat' first
    | with_reducible exact TL1.nil
    | with_reducible apply TL1.cons
    | with_reducible apply TS1.c
    | with_reducible apply TS1.mul
    | with_reducible exact ev_c _ _ _
    | with_reducible apply TS1.add
    | with_reducible exact TS1.var _ he hw
    | decide +kernel
def oL14 : En → M (List Val) := (vCons (eOp2 addV (eOp2 addV (eC (.str "(")) (eVar 1)) (eC (.str ")"))) (vCons (eOp2 addV (eC (.str "~")) (eVar 1)) (vCons (eOp2 addV (eC (.str "-")) (eVar 1)) (vNil))))
theorem oL14_ok {env : En} {s : Sto} {w : List Nat} (he : env[1]? = some (some (.d (.str (S w))))) (hw : TB w 200) : TL1 oL14 env s 20000 3 := by
  unfold oL14
  repeat' first
    | with_reducible exact TL1.nil
    | with_reducible apply TL1.cons
    | with_reducible apply TS1.c
    | with_reducible apply TS1.mul
    | with_reducible exact ev_c _ _ _
    | with_reducible apply TS1.add
    | with_reducible exact TS1.var _ he hw
    | decide +kernel
end LW
end

set_option Elab.async false
set_option linter.all false
set_option maxRecDepth 100000
set_option maxHeartbeats 1000000
noncomputable section
namespace LW
open PySem PySem.Spec PyProof.Rows L2 DL TL SX NumText
def oddM : En → M Val := (eOp2 addV (eOp2 addV (eOp2 addV (eOp2 mulV (eC (.str "~")) (eVar 3)) (eOp2 mulV (eC (.str "(")) (eOp2 subV (eVar 4) (eVar 3)))) (eC (.str "a"))) (eOp2 mulV (eC (.str " + 1)")) (eOp2 subV (eVar 4) (eVar 3))))
def oddB : SM := sSeq (sExpr (eBm lstR appendG (eVar 2) (vCons oddM (vNil)))) (sNil)
theorem odd_eq : b__law_odd = fun b => (sSeq (sOwn b 2 0 (eLst oL0)) (sSeq (sOwn b 2 0 (eOp2 addV (eVar 2) (eLst oL1))) (sSeq (sOwn b 2 0 (eOp2 addV (eVar 2) (eLst oL2))) (sSeq (sOwn b 2 0 (eOp2 addV (eVar 2) (eLst oL3))) (sSeq (sOwn b 2 0 (eOp2 addV (eVar 2) (eLst oL4))) (sSeq (sOwn b 2 0 (eOp2 addV (eVar 2) (eLst oL5))) (sSeq (sOwn b 2 0 (eOp2 addV (eVar 2) (eLst oL6))) (sSeq (sOwn b 2 0 (eOp2 addV (eVar 2) (eLst oL7))) (sSeq (sOwn b 2 0 (eOp2 addV (eVar 2) (eLst oL8))) (sSeq (sOwn b 2 0 (eOp2 addV (eVar 2) (eLst oL9))) (sSeq (sOwn b 2 0 (eOp2 addV (eVar 2) (eLst oL10))) (sSeq (sSet 3 (eOp2 addV (eC (.int 1)) (eCall m__law_draw (rCons (eVar 0) (rCons (eC (.int 11)) (rNil)))))) (sSeq (sFor (itSeq (eTup (vCons (eC (.int 12)) (vCons (eC (.int 13)) (vNil))))) (gVar 4) oddB) (sSeq (sOwn b 2 0 (eOp2 addV (eVar 2) (eLst oL13))) (sSeq (sOwn b 2 0 (eOp2 addV (eVar 2) (eLst oL14))) (sSeq (sRet (eOp2 ixSeq (eVar 2) (eCall m__law_draw (rCons (eVar 0) (rCons (eBi lenG (vCons (eVar 2) (vNil))) (rNil)))))) (sNil))))))))))))))))) := rfl
theorem oddM_ok {env : En} {s : Sto} {m z : Int} (h3 : env[3]? = some (some (.d (.int m)))) (h4 : env[4]? = some (some (.d (.int z)))) (m1 : 1 ≤ m) (m2 : m ≤ 11) (z1 : 12 ≤ z) (z2 : z ≤ 13) : TS1 oddM env s 20000 := by
  have e3 : eVar 3 env s = .ok (.d (.int m)) s := ev_var _ _ _ _ h3
  have e4 : eOp2 subV (eVar 4) (eVar 3) env s = .ok (.d (.int (z - m))) s := by simp [ev_var _ _ _ _ h3, ev_var _ _ _ _ h4]
  have q1 : (z - m).toNat ≤ 12 := by omega
  have q2 : m.toNat ≤ 11 := by omega
  have k1 : (Str.ofString "~").length = 1 := by decide
  have k2 : (Str.ofString "(").length = 1 := by decide
  have k3 : (Str.ofString "a").length = 1 := by decide
  have k4 : (Str.ofString " + 1)").length = 5 := by decide
  have hz : 20000 ≤ sizeLine := by decide
  have t1 := TS1.mul (TS1.c "~" env s (by decide +kernel)) e3 (by omega) (by omega) (by rw [k1]; omega)
  have t2 := TS1.mul (TS1.c "(" env s (by decide +kernel)) e4 (by omega) (by omega) (by rw [k2]; omega)
  have t3 := TS1.c "a" env s (by decide +kernel)
  have t4 := TS1.mul (TS1.c " + 1)" env s (by decide +kernel)) e4 (by omega) (by omega) (by rw [k4]; omega)
  rw [k1] at t1
  rw [k2] at t2
  rw [k3] at t3
  rw [k4] at t4
  exact (((t1.add t2 (by omega)).add t3 (by omega)).add t4 (by omega)).mono (by omega)
theorem fn_odd {s : Sto} {l n : Nat} {w : List Nat} (hp : PoolAt s l n) (hn : n < 2 ^ 70) (hw : TB w 200) :
    ∃ r s', m__law_odd [.m l [], .d (.str (S w))] s = .ok (.d (.str (S r))) s' ∧ TB r 20000 ∧ PoolAt s' l (n + 2) ∧ Oth s s' l := by
  have hlt := hp.lt
  have hb : s.length ≠ l := by omega
  have hbl : s.length < (s ++ [none]).length := by simp
  have p0 := hp.more [none]
  obtain ⟨x0, f0, M0⟩ := own_new (env := [some (.m l []), some (.d (.str (S w))), none, none, none]) (i := 2) (b := s.length) (s := s ++ [none]) (oL0_ok rfl hw) (show 2 < 5 by decide) hbl (by decide)
  have p1 := p0.set (some [([], .lst x0)]) hb
  have o1 := OthN.set (m := s.length) (s ++ [none]) l (some [([], .lst x0)]) (Nat.le_refl _)
  have f0' : sOwn s.length 2 0 (eLst oL0) [some (.m l []), some (.d (.str (S w))), none, none, none] (s ++ [none]) = .ok .nx [some (.m l []), some (.d (.str (S w))), some (.m s.length []), none, none] _ := f0
  have M0 : MenuAt [some (.m l []), some (.d (.str (S w))), some (.m s.length []), none, none] _ 2 s.length 14 20000 x0 := M0
  generalize (s ++ [none]).set s.length (some [([], .lst x0)]) = s1 at *
  obtain ⟨x1, f1, M1⟩ := own_more M0 (oL1_ok rfl hw) (by decide)
  have p2 := p1.set (some [([], .lst x1)]) hb
  have o2 := o1.trans (OthN.set s1 l (some [([], .lst x1)]) (Nat.le_refl _))
  generalize s1.set s.length (some [([], .lst x1)]) = s2 at *
  obtain ⟨x2, f2, M2⟩ := own_more M1 (oL2_ok rfl hw) (by decide)
  have p3 := p2.set (some [([], .lst x2)]) hb
  have o3 := o2.trans (OthN.set s2 l (some [([], .lst x2)]) (Nat.le_refl _))
  generalize s2.set s.length (some [([], .lst x2)]) = s3 at *
  obtain ⟨x3, f3, M3⟩ := own_more M2 (oL3_ok rfl hw) (by decide)
  have p4 := p3.set (some [([], .lst x3)]) hb
  have o4 := o3.trans (OthN.set s3 l (some [([], .lst x3)]) (Nat.le_refl _))
  generalize s3.set s.length (some [([], .lst x3)]) = s4 at *
  obtain ⟨x4, f4, M4⟩ := own_more M3 (oL4_ok rfl hw) (by decide)
  have p5 := p4.set (some [([], .lst x4)]) hb
  have o5 := o4.trans (OthN.set s4 l (some [([], .lst x4)]) (Nat.le_refl _))
  generalize s4.set s.length (some [([], .lst x4)]) = s5 at *
  obtain ⟨x5, f5, M5⟩ := own_more M4 (oL5_ok rfl hw) (by decide)
  have p6 := p5.set (some [([], .lst x5)]) hb
  have o6 := o5.trans (OthN.set s5 l (some [([], .lst x5)]) (Nat.le_refl _))
  generalize s5.set s.length (some [([], .lst x5)]) = s6 at *
  obtain ⟨x6, f6, M6⟩ := own_more M5 (oL6_ok rfl hw) (by decide)
  have p7 := p6.set (some [([], .lst x6)]) hb
  have o7 := o6.trans (OthN.set s6 l (some [([], .lst x6)]) (Nat.le_refl _))
  generalize s6.set s.length (some [([], .lst x6)]) = s7 at *
  obtain ⟨x7, f7, M7⟩ := own_more M6 (oL7_ok rfl hw) (by decide)
  have p8 := p7.set (some [([], .lst x7)]) hb
  have o8 := o7.trans (OthN.set s7 l (some [([], .lst x7)]) (Nat.le_refl _))
  generalize s7.set s.length (some [([], .lst x7)]) = s8 at *
  obtain ⟨x8, f8, M8⟩ := own_more M7 (oL8_ok rfl hw) (by decide)
  have p9 := p8.set (some [([], .lst x8)]) hb
  have o9 := o8.trans (OthN.set s8 l (some [([], .lst x8)]) (Nat.le_refl _))
  generalize s8.set s.length (some [([], .lst x8)]) = s9 at *
  obtain ⟨x9, f9, M9⟩ := own_more M8 (oL9_ok rfl hw) (by decide)
  have p10 := p9.set (some [([], .lst x9)]) hb
  have o10 := o9.trans (OthN.set s9 l (some [([], .lst x9)]) (Nat.le_refl _))
  generalize s9.set s.length (some [([], .lst x9)]) = s10 at *
  obtain ⟨x10, f10, M10⟩ := own_more M9 (oL10_ok rfl hw) (by decide)
  have p11 := p10.set (some [([], .lst x10)]) hb
  have o11 := o10.trans (OthN.set s10 l (some [([], .lst x10)]) (Nat.le_refl _))
  generalize s10.set s.length (some [([], .lst x10)]) = s11 at *
  obtain ⟨d, t1, e1, a1, b1, p12, q1⟩ := draw (k := 11) p11 (by omega) (by decide) (by decide)
  have o12 := o11.trans (OthN.of q1)
  have M11 := M10.oth (q1.at_ _ hb)
  have M12 : MenuAt [some (.m l []), some (.d (.str (S w))), some (.m s.length []), some (.d (.int (1 + d))), some (.d (.int 12))] t1 2 s.length 51 20000 x10 := M11.env rfl
  obtain ⟨y1, g1, N1⟩ := app_one M12 (oddM_ok rfl rfl (by omega) (by omega) (by omega) (by omega)) (by decide)
  have p13 := p12.set (some [([], .lst y1)]) hb
  have o13 := o12.trans (OthN.set t1 l (some [([], .lst y1)]) (Nat.le_refl _))
  generalize t1.set s.length (some [([], .lst y1)]) = t2 at *
  have N1' : MenuAt [some (.m l []), some (.d (.str (S w))), some (.m s.length []), some (.d (.int (1 + d))), some (.d (.int 13))] t2 2 s.length (51 + 1) 20000 y1 := N1.env rfl
  obtain ⟨y2, g2, N2⟩ := app_one N1' (oddM_ok rfl rfl (by omega) (by omega) (by omega) (by omega)) (by decide)
  have p14 := p13.set (some [([], .lst y2)]) hb
  have o14 := o13.trans (OthN.set t2 l (some [([], .lst y2)]) (Nat.le_refl _))
  generalize t2.set s.length (some [([], .lst y2)]) = t3 at *
  obtain ⟨y3, g3, N3⟩ := own_more N2 (oL13_ok rfl hw) (by decide)
  have p15 := p14.set (some [([], .lst y3)]) hb
  have o15 := o14.trans (OthN.set t3 l (some [([], .lst y3)]) (Nat.le_refl _))
  generalize t3.set s.length (some [([], .lst y3)]) = t4 at *
  obtain ⟨y4, g4, N4⟩ := own_more N3 (oL14_ok rfl hw) (by decide)
  have p16 := p15.set (some [([], .lst y4)]) hb
  have o16 := o15.trans (OthN.set t4 l (some [([], .lst y4)]) (Nat.le_refl _))
  generalize t4.set s.length (some [([], .lst y4)]) = t5 at *
  have ln := len_menu N4
  obtain ⟨d2, t6, e2, a2, b2, p17, q2⟩ := draw (k := 59) p16 (by omega) (by decide) (by decide)
  have o17 := o16.trans (OthN.of q2)
  obtain ⟨r, ir, tr⟩ := ix_menu N4 a2 b2 t6 (q2.at_ _ hb)
  refine ⟨r, t6.take s.length, ?_, tr, p17.less hlt, o17.fin⟩
  unfold m__law_odd
  rw [ev_run1, odd_eq]
  simp only [List.map_cons, List.map_nil, List.length_cons, List.length_nil]
  show SR.fin ((sSeq (sOwn s.length 2 0 (eLst oL0)) _) [some (.m l []), some (.d (.str (S w))), none, none, none] (s ++ [none])) s.length = _
  rw [ev_seq, f0', sq_nx]
  rw [ev_seq, f1, sq_nx]
  rw [ev_seq, f2, sq_nx]
  rw [ev_seq, f3, sq_nx]
  rw [ev_seq, f4, sq_nx]
  rw [ev_seq, f5, sq_nx]
  rw [ev_seq, f6, sq_nx]
  rw [ev_seq, f7, sq_nx]
  rw [ev_seq, f8, sq_nx]
  rw [ev_seq, f9, sq_nx]
  rw [ev_seq, f10, sq_nx]
  rw [ev_seq, ev_set]
  have c1 : stl (eOp2 addV (eC (.int 1)) (eCall m__law_draw (rCons (eVar 0) (rCons (eC (.int 11)) (rNil))))) [some (.m l []), some (.d (.str (S w))), some (.m s.length []), none, none] s11 = .ok (.d (.int (1 + d))) t1 := by
    simp [e1, q1.take]
  rw [c1, sb_ok, cD_d, sq_nx, ev_seq, ev_for]
  have c2 : itSeq (eTup (vCons (eC (.int 12)) (vCons (eC (.int 13)) (vNil)))) [some (.m l []), some (.d (.str (S w))), some (.m s.length []), some (.d (.int (1 + d))), none] t1 = .ok [.int 12, .int 13] t1 := by simp
  show SR.fin (SR.sq ((itSeq (eTup (vCons (eC (.int 12)) (vCons (eC (.int 13)) (vNil)))) [some (.m l []), some (.d (.str (S w))), some (.m s.length []), some (.d (.int (1 + d))), none] t1).sb _ _) _) _ = _
  rw [c2, sb_ok]
  rw [for_cons (env1 := [some (.m l []), some (.d (.str (S w))), some (.m s.length []), some (.d (.int (1 + d))), some (.d (.int 12))]) _ _ _ rfl]
  have h1 : oddB [some (.m l []), some (.d (.str (S w))), some (.m s.length []), some (.d (.int (1 + d))), some (.d (.int 12))] t1 = .ok .nx [some (.m l []), some (.d (.str (S w))), some (.m s.length []), some (.d (.int (1 + d))), some (.d (.int 12))] t2 := by
    unfold oddB; rw [ev_seq, g1, sq_nx, ev_nil]
  have h2 : oddB [some (.m l []), some (.d (.str (S w))), some (.m s.length []), some (.d (.int (1 + d))), some (.d (.int 13))] t2 = .ok .nx [some (.m l []), some (.d (.str (S w))), some (.m s.length []), some (.d (.int (1 + d))), some (.d (.int 13))] t3 := by
    unfold oddB; rw [ev_seq, g2, sq_nx, ev_nil]
  rw [h1, lp_nx, for_cons (env1 := [some (.m l []), some (.d (.str (S w))), some (.m s.length []), some (.d (.int (1 + d))), some (.d (.int 13))]) _ _ _ rfl, h2, lp_nx, for_nil, sq_nx]
  rw [ev_seq, g3, sq_nx, ev_seq, g4, sq_nx]
  have e2' : m__law_draw [.m l [], .d (.int 59)] t5 = .ok (.d (.int d2)) t6 := e2
  simp [ln, e2', q2.take, ir]
end LW
end

set_option Elab.async false
set_option linter.all false
set_option maxRecDepth 100000
set_option maxHeartbeats 1000000
noncomputable section
namespace LW
open PySem PySem.Spec PyProof.Rows L2 DL TL SX NumText
theorem Tx.of_sub {l m : List Nat} (h : Tx l) (k : m.Sublist l) : Tx m := fun c hc => h c (k.subset hc)
theorem TS1.sl {env : En} {s : Sto} {w : List Nat} {k : Nat} (h1 : env[1]? = some (some (.d (.str (S w))))) (hw : TB w k) (hk : k ≤ sizeLine) {lo hi : Option (En → M Val)} {a b : Option Int} (ea : ePart lo env s = .ok a s) (eb : ePart hi env s = .ok b s) {r : List Nat} (e : cutS (S w) a b = S r) (hr : r.Sublist w) : TS1 (eSlice (eVar 1) lo hi) env s k := by
  refine ⟨r, ?_, hw.tx.of_sub hr, Nat.le_trans hr.length_le hw.le⟩
  have : w.length ≤ sizeLine := Nat.le_trans hw.le hk
  simp [ev_var _ _ _ _ h1, ea, eb, S_len, this, e]
theorem ret_ts {m : En → M Val} {env : En} {s : Sto} {k : Nat} (h : TS1 m env s k) : ∃ r, TB r k ∧ sRet m env s = .ok (.rt (.d (.str (S r)))) env s := by
  obtain ⟨r, e, t⟩ := h
  exact ⟨r, t, by rw [ev_rt, e]; rfl⟩
theorem mem_joinL {c : Nat} : ∀ {ps : List (List Nat)}, c ∈ TL.joinL [32] ps → c = 32 ∨ ∃ p ∈ ps, c ∈ p
  | [], h => by cases h
  | [p], h => .inr ⟨p, by simp, h⟩
  | p :: q :: r, h => by
    have h : c ∈ p ++ ([32] ++ TL.joinL [32] (q :: r)) := h
    simp only [List.mem_append, List.mem_singleton] at h
    rcases h with h | h | h
    · exact .inr ⟨p, by simp, h⟩
    · exact .inl h
    · rcases mem_joinL h with h | ⟨x, h1, h2⟩
      · exact .inl h
      · exact .inr ⟨x, List.mem_cons_of_mem _ h1, h2⟩
theorem joinL_mem {c : Nat} : ∀ {ps : List (List Nat)} {p : List Nat}, p ∈ ps → c ∈ p → c ∈ TL.joinL [32] ps
  | [q], p, h, hc => by rw [List.mem_singleton.mp h] at hc; exact hc
  | q :: q2 :: r, p, h, hc => by
    show c ∈ q ++ ([32] ++ TL.joinL [32] (q2 :: r))
    rcases List.mem_cons.mp h with rfl | h
    · simp [hc]
    · simp [joinL_mem h hc]
theorem tot_mem {ps : List (List Nat)} {p : List Nat} (h : p ∈ ps) : p.length + 1 ≤ tot ps := by
  obtain ⟨a, b, rfl⟩ := List.append_of_mem h
  rw [tot_app, show p :: b = [p] ++ b from rfl, tot_app]
  have : tot [p] = p.length + 1 := by simp [tot]
  omega
theorem tot_le {ps : List (List Nat)} {k : Nat} (h : ∀ p ∈ ps, p.length ≤ k) : tot ps ≤ ps.length * (k + 1) := by
  induction ps with
  | nil => simp [tot]
  | cons p r ih =>
    have ih := ih fun q hq => h q (by simp [hq])
    have := h p (by simp)
    rw [show p :: r = [p] ++ r from rfl, tot_app]
    have e : tot [p] = p.length + 1 := by simp [tot]
    rw [List.length_append, List.length_singleton, Nat.add_mul]
    omega
theorem spb_all {w : List Nat} (hw : TB w 200) : AllT (lsD (spb w)) 200 ∧ 1 ≤ (spb w).length ∧ (spb w).length ≤ 201 := by
  obtain ⟨j1, j2, j3⟩ := spb_join _ w (Nat.le_refl _)
  have jl := join_len _ j2
  rw [j1] at jl
  have hl := hw.le
  refine ⟨fun d hd => ?_, List.length_pos_iff.mpr j2, by unfold tot at jl; omega⟩
  obtain ⟨p, hp, rfl⟩ := List.mem_map.mp hd
  refine ⟨p, rfl, fun c hc => hw.tx c ?_, by have := tot_mem hp; omega⟩
  rw [← j1]; exact joinL_mem hp hc
theorem allT_ls {xs : List D} {k : Nat} (h : AllT xs k) : ∃ ps, xs = lsD ps ∧ ∀ p ∈ ps, TB p k := by
  induction xs with
  | nil => exact ⟨[], rfl, nofun⟩
  | cons x r ih =>
    obtain ⟨ps, e, hp⟩ := ih fun d hd => h d (by simp [hd])
    obtain ⟨l, rfl, t⟩ := h x (by simp)
    refine ⟨l :: ps, by rw [e]; rfl, fun p hp' => ?_⟩
    rcases List.mem_cons.mp hp' with rfl | hp'
    · exact t
    · exact hp p hp'
theorem store_menu {env : En} {s : Sto} {i b k n : Nat} {xs : List D} (M : MenuAt env s i b n k xs) {d : Int} (h0 : 0 ≤ d) (h1 : d < n) {l : List Nat} (t : TB l k) :
    ∃ ys, stK setLst env (.m b []) (.d (.int d)) (.str (S l)) s = .ok .nx env (s.set b (some [([], .lst ys)])) ∧ MenuAt env (s.set b (some [([], .lst ys)])) i b n k ys := by
  have hb := (List.getElem?_eq_some_iff.mp M.at_).1
  refine ⟨xs.set d.toNat (.str (S l)), ?_, ⟨M.sl, by simp [hb], by rw [List.length_set, M.len], fun x hx => ?_⟩⟩
  · refine stK_of ?_
    rw [set_m (xs := xs) (j := d.toNat) (by unfold res; rw [M.at_]; rfl) (by
      unfold ixN
      rw [if_pos h0, if_pos (by rw [M.len]; omega)])]
    unfold upS; rw [M.at_]; rfl
  · rcases List.mem_or_eq_of_mem_set hx with h | rfl
    · exact M.all x h
    · exact ⟨l, rfl, t⟩
end LW
end

set_option Elab.async false
set_option linter.all false
set_option maxRecDepth 100000
set_option maxHeartbeats 1000000
noncomputable section
namespace LW
open PySem PySem.Spec PyProof.Rows L2 DL TL SX NumText
def bentW (b : Nat) : SM := (sSeq (sOwn b 7 0 (eBm strR splitG (eVar 1) (vCons (eC (.str " ")) (vNil)))) (sSeq (sPar b [ (8, none) , (9, none) ] (rCons (eCall m__law_draw (rCons (eVar 0) (rCons (eBi lenG (vCons (eVar 7) (vNil))) (rNil)))) (rCons (eCall m__law_draw (rCons (eVar 0) (rCons (eBi lenG (vCons (eVar 7) (vNil))) (rNil)))) (rNil)))) (sSeq (sSet 10 (eOp2 ixSeq (eVar 7) (eVar 8))) (sSeq (sStore setLst (eVar 7) (eVar 8) (eOp2 ixSeq (eVar 7) (eVar 9))) (sSeq (sStore setLst (eVar 7) (eVar 9) (eVar 10)) (sSeq (sRet (eBm strR joinG (eC (.str " ")) (vCons (eMove (eVar 7)) (vNil)))) (sNil)))))))
def bentT (b : Nat) : SM := (sSeq (sIf (tVal (eOp2 eqV (eVar 3) (eC (.int 0)))) (sSeq (sRet (eOp2 addV (eOp2 addV (eSlice (eVar 1) none (some (eVar 2))) (eVar 6)) (eSlice (eVar 1) (some (eVar 2)) none))) (sNil)) (sNil)) (sSeq (sIf (tVal (eOp2 eqV (eVar 3) (eC (.int 1)))) (sSeq (sRet (eOp2 addV (eSlice (eVar 1) none (some (eVar 2))) (eSlice (eVar 1) (some (eOp2 addV (eVar 2) (eC (.int 1)))) none))) (sNil)) (sNil)) (sSeq (sIf (tVal (eOp2 eqV (eVar 3) (eC (.int 2)))) (sSeq (sRet (eOp2 addV (eOp2 addV (eSlice (eVar 1) none (some (eVar 2))) (eVar 6)) (eSlice (eVar 1) (some (eOp2 addV (eVar 2) (eC (.int 1)))) none))) (sNil)) (sNil)) (sSeq (sIf (tVal (eOp2 eqV (eVar 3) (eC (.int 3)))) (sSeq (sRet (eCall m__law_odd (rCons (eVar 0) (rCons (eVar 1) (rNil))))) (sNil)) (sNil)) (sSeq (sIf (tVal (eOp2 eqV (eVar 3) (eC (.int 4)))) (bentW b) (sNil)) (sSeq (sRet (eVar 1)) (sNil)))))))
def bent1 (b : Nat) : SM := (sPar b [ (2, none) , (3, none) ] (rCons (eCall m__law_draw (rCons (eVar 0) (rCons (eOp2 addV (eBi lenG (vCons (eVar 1) (vNil))) (eC (.int 1))) (rNil)))) (rCons (eCall m__law_draw (rCons (eVar 0) (rCons (eC (.int 7)) (rNil)))) (rNil))))
def bent3 : SM := (sSet 5 (eOp2 ixSeq (eLst (vCons (eC (.str "0123456789 -/~()+&|*<=?mod")) (vCons (eOp2 addV (eOp2 addV (eVar 4) (eC (.str "\\"))) (eC (.str "\""))) (vNil)))) (eCall m__law_draw (rCons (eVar 0) (rCons (eC (.int 2)) (rNil))))))
def bent4 : SM := (sSet 6 (eOp2 ixSeq (eVar 5) (eCall m__law_draw (rCons (eVar 0) (rCons (eBi lenG (vCons (eVar 5) (vNil))) (rNil))))))
theorem bent_eq : b__law_bent = fun b => sSeq (bent1 b) (sSeq (sSet 4 (eC (.str "abcdefghijklmnopqrstuvwxyzABCDEFGHIJKLMNOPQRSTUVWXYZ0123456789 !#*+,-./:;<=>?()[]_{|}$&'@^~`"))) (sSeq bent3 (sSeq bent4 (bentT b)))) := rfl
@[simp] theorem ev_move (m : En → M Val) (env : En) (s : Sto) : eMove m env s = (m env s).bnd moveV := rfl
theorem way4 {s : Sto} {l n b : Nat} {w : List Nat} {a2 a3 a4 a5 a6 : Option Val} (hp : PoolAt s l n) (hn : n < 2 ^ 70) (hw : TB w 200) (hb : b < s.length) (hbl : b ≠ l) :
    ∃ r t env', bentW b [some (.m l []), some (.d (.str (S w))), a2, a3, a4, a5, a6, none, none, none, none] s = .ok (.rt (.d (.str (S r)))) env' t ∧ TB r 50000 ∧ PoolAt t l (n + 2) ∧ OthN b s t l := by
  obtain ⟨al, k1, k2⟩ := spb_all hw
  have hwz : w.length + 2 ≤ sizeLine := by
    have := hw.le
    have : 1000 ≤ sizeLine := by decide
    omega
  have sp := split_ok w s hwz
  have f1 : sOwn b 7 0 (eBm strR splitG (eVar 1) (vCons (eC (.str " ")) (vNil))) [some (.m l []), some (.d (.str (S w))), a2, a3, a4, a5, a6, none, none, none, none] s = .ok .nx [some (.m l []), some (.d (.str (S w))), a2, a3, a4, a5, a6, some (.m b []), none, none, none] (s.set b (some [([], .lst (lsD (spb w)))])) := by
    have e : eBm strR splitG (eVar 1) (vCons (eC (.str " ")) (vNil)) [some (.m l []), some (.d (.str (S w))), a2, a3, a4, a5, a6, none, none, none, none] s = .ok (.f [([], .lst (lsD (spb w)))]) s := by
      simp [o_sp, sp, lsD]
    show (eBm strR splitG _ _ _ s).sb _ _ = _
    rw [e, sb_ok]
    exact if_pos hb
  have M0 : MenuAt [some (.m l []), some (.d (.str (S w))), a2, a3, a4, a5, a6, some (.m b []), none, none, none] (s.set b (some [([], .lst (lsD (spb w)))])) 7 b (spb w).length 200 (lsD (spb w)) := ⟨rfl, by simp [hb], by unfold lsD; simp, al⟩
  have p1 := hp.set (some [([], .lst (lsD (spb w)))]) hbl
  have o1 := OthN.set (m := b) s l (some [([], .lst (lsD (spb w)))]) (Nat.le_refl _)
  generalize s.set b (some [([], .lst (lsD (spb w)))]) = t1 at *
  have ln1 := len_menu M0
  obtain ⟨d5, t2, e2, a5', b5, p2, q2⟩ := draw (k := ((spb w).length : Int)) p1 (by omega) (by omega) (Nat.lt_of_le_of_lt (Nat.log2_le_self _) (by omega))
  have M1 := M0.oth (q2.at_ _ hbl)
  have ln2 := len_menu M1
  obtain ⟨d6, t3, e3, a6', b6, p3, q3⟩ := draw (k := ((spb w).length : Int)) p2 (by omega) (by omega) (Nat.lt_of_le_of_lt (Nat.log2_le_self _) (by omega))
  have M2 := M1.oth (q3.at_ _ hbl)
  have o3 := (o1.trans (OthN.of q2)).trans (OthN.of q3)
  obtain ⟨r5, i5, tb5⟩ := ix_menu M2 a5' b5 t3 rfl
  obtain ⟨r6, i6, tb6⟩ := ix_menu M2 a6' b6 t3 rfl
  have M3 : MenuAt [some (.m l []), some (.d (.str (S w))), a2, a3, a4, a5, a6, some (.m b []), some (.d (.int d5)), some (.d (.int d6)), some (.d (.str (S r5)))] t3 7 b (spb w).length 200 (lsD (spb w)) := M2.env rfl
  obtain ⟨y1, g1, N1⟩ := store_menu M3 a5' b5 tb6
  have p4 := p3.set (some [([], .lst y1)]) hbl
  have o4 := o3.trans (OthN.set t3 l (some [([], .lst y1)]) (Nat.le_refl _))
  generalize t3.set b (some [([], .lst y1)]) = t4 at *
  obtain ⟨y2, g2, N2⟩ := store_menu N1 a6' b6 tb5
  have p5 := p4.set (some [([], .lst y2)]) hbl
  have o5 := o4.trans (OthN.set t4 l (some [([], .lst y2)]) (Nat.le_refl _))
  generalize t4.set b (some [([], .lst y2)]) = t5 at *
  obtain ⟨ps, rfl, hps⟩ := allT_ls N2.all
  have hlen : ps.length = (spb w).length := by have := N2.len; unfold lsD at this; simpa using this
  have htot : tot ps ≤ 50000 := by
    have := tot_le (ps := ps) (k := 200) fun p hp => (hps p hp).le
    have : ps.length * (200 + 1) ≤ 201 * (200 + 1) := Nat.mul_le_mul_right _ (by omega)
    omega
  have mv : moveV (.m b []) t5 = .ok (.f [([], .lst (lsD ps))]) (t5.set b none) := by
    show (match t5[b]? with | some (some t) => Res.ok (Val.f t) (t5.set b none) | _ => .bad) = _
    rw [N2.at_]
  have jo := join_ok ps (t5.set b none) (by omega)
  have hne : ps ≠ [] := fun e => by rw [e] at hlen; simp at hlen; omega
  refine ⟨TL.joinL [32] ps, t5.set b none, [some (.m l []), some (.d (.str (S w))), a2, a3, a4, a5, a6, some (.m b []), some (.d (.int d5)), some (.d (.int d6)), some (.d (.str (S r5)))], ?_, ⟨fun c hc => ?_, by have := join_len ps hne; omega⟩, p5.set none hbl, o5.trans (OthN.set t5 l none (Nat.le_refl _))⟩
  · unfold bentW
    rw [ev_seq, f1, sq_nx]
    simp [ln1, e2, q2.take, ln2, e3, q3.take, (q2.trans q3).take, i5, ev_store, i6, g1, g2, mv, o_sp, jo]
  · rcases mem_joinL hc with rfl | ⟨p, hp, hc⟩
    · decide
    · exact (hps p hp).tx c hc
end LW
end

set_option Elab.async false
set_option linter.all false
set_option maxRecDepth 100000
set_option maxHeartbeats 1000000
noncomputable section
namespace LW
open PySem PySem.Spec PyProof.Rows L2 DL TL SX NumText
def bm0 : En → M Val := (eOp2 addV (eOp2 addV (eSlice (eVar 1) none (some (eVar 2))) (eVar 6)) (eSlice (eVar 1) (some (eVar 2)) none))
def bm1 : En → M Val := (eOp2 addV (eSlice (eVar 1) none (some (eVar 2))) (eSlice (eVar 1) (some (eOp2 addV (eVar 2) (eC (.int 1)))) none))
def bm2 : En → M Val := (eOp2 addV (eOp2 addV (eSlice (eVar 1) none (some (eVar 2))) (eVar 6)) (eSlice (eVar 1) (some (eOp2 addV (eVar 2) (eC (.int 1)))) none))
def bentU (b : Nat) : SM := (sSeq (sIf (tVal (eOp2 eqV (eVar 3) (eC (.int 0)))) (sSeq (sRet bm0) (sNil)) (sNil)) (sSeq (sIf (tVal (eOp2 eqV (eVar 3) (eC (.int 1)))) (sSeq (sRet bm1) (sNil)) (sNil)) (sSeq (sIf (tVal (eOp2 eqV (eVar 3) (eC (.int 2)))) (sSeq (sRet bm2) (sNil)) (sNil)) (sSeq (sIf (tVal (eOp2 eqV (eVar 3) (eC (.int 3)))) (sSeq (sRet (eCall m__law_odd (rCons (eVar 0) (rCons (eVar 1) (rNil))))) (sNil)) (sNil)) (sSeq (sIf (tVal (eOp2 eqV (eVar 3) (eC (.int 4)))) (bentW b) (sNil)) (sSeq (sRet (eVar 1)) (sNil)))))))
theorem bentT_eq : bentT = bentU := rfl
def oth : Str := Str.ofString "abcdefghijklmnopqrstuvwxyzABCDEFGHIJKLMNOPQRSTUVWXYZ0123456789 !#*+,-./:;<=>?()[]_{|}$&'@^~`"
def sgA : Str := Str.ofString "0123456789 -/~()+&|*<=?mod"
def sgB : Str := oth ++ Str.ofString "\\" ++ Str.ofString "\""
theorem sg_ok {z : Str} (h : z = sgA ∨ z = sgB) : (tl z).all (fun c => decide (c < 1114112)) = true ∧ 0 < z.length ∧ z.length ≤ 200 := by
  rcases h with rfl | rfl <;> decide +kernel
theorem bent3_ok {E : En} {s : Sto} {l n : Nat} {a1 a2 a3 : Option Val} (hp : PoolAt s l n) (hn : n < 2 ^ 70) :
    ∃ z s', bent3 [some (.m l []), a1, a2, a3, some (.d (.str oth)), none, none, none, none, none, none] s = .ok .nx [some (.m l []), a1, a2, a3, some (.d (.str oth)), some (.d (.str z)), none, none, none, none, none] s' ∧ (z = sgA ∨ z = sgB) ∧ PoolAt s' l (n + 1) ∧ Oth s s' l := by
  obtain ⟨d, s', e1, a, b, p, q⟩ := draw (k := 2) hp (by omega) (by decide) (by decide)
  have hA : oth.length + (Str.ofString "\\").length ≤ sizeLine := by decide +kernel
  have hB : (oth ++ Str.ofString "\\").length + (Str.ofString "\"").length ≤ sizeLine := by decide +kernel
  have L : mkLst [.d (.str sgA), .d (.str sgB)] s = .ok (.f [([], .lst [.str sgA, .str sgB])]) s := mkL_of [.str sgA, .str sgB] s (show 2 ≤ sizeLine by decide)
  have I0 : ixSeq (.d (.lst [.str sgA, .str sgB])) (.d (.int 0)) s' = .ok (.d (.str sgA)) s' := rfl
  have I1 : ixSeq (.d (.lst [.str sgA, .str sgB])) (.d (.int 1)) s' = .ok (.d (.str sgB)) s' := rfl
  have eA : Str.ofString "0123456789 -/~()+&|*<=?mod" = sgA := rfl
  have eB : oth ++ Str.ofString "\\" ++ Str.ofString "\"" = sgB := rfl
  have hd : d = 0 ∨ d = 1 := by omega
  rcases hd with rfl | rfl
  · refine ⟨sgA, s', ?_, .inl rfl, p, q⟩
    simp [bent3, hA, hB, eA, eB, L, e1, q.take, I0]
  · refine ⟨sgB, s', ?_, .inr rfl, p, q⟩
    simp [bent3, hA, hB, eA, eB, L, e1, q.take, I1]
theorem TS1.varz {i : Nat} {env : En} {z : Str} {k : Nat} (s : Sto) (he : env[i]? = some (some (.d (.str z)))) (h : TB (tl z) k) : TS1 (eVar i) env s k := ⟨tl z, by rw [S_tl]; exact ev_var _ _ _ _ he, h⟩
theorem bm_ok {env : En} {s : Sto} {w : List Nat} {d c : Nat} (h1 : env[1]? = some (some (.d (.str (S w))))) (h2 : env[2]? = some (some (.d (.int (d : Int))))) (h6 : env[6]? = some (some (.d (.str (S [c]))))) (hw : TB w 200) (hc : c < 1114112) :
    TS1 bm0 env s 50000 ∧ TS1 bm1 env s 50000 ∧ TS1 bm2 env s 50000 := by
  have z200 : 1000 ≤ sizeLine := by decide
  have p2 : ePart (some (eVar 2)) env s = .ok (some (d : Int)) s := by simp [ev_var _ _ _ _ h2]
  have p3 : ePart (some (eOp2 addV (eVar 2) (eC (.int 1)))) env s = .ok (some ((d + 1 : Nat) : Int)) s := by simp [ev_var _ _ _ _ h2]
  have t1 : TS1 (eSlice (eVar 1) none (some (eVar 2))) env s 200 := TS1.sl h1 hw (by omega) rfl p2 (cut_to w d) (List.take_sublist _ _)
  have t2 : TS1 (eSlice (eVar 1) (some (eVar 2)) none) env s 200 := TS1.sl h1 hw (by omega) p2 rfl (cut_from w d) (List.drop_sublist _ _)
  have t3 : TS1 (eSlice (eVar 1) (some (eOp2 addV (eVar 2) (eC (.int 1)))) none) env s 200 := TS1.sl h1 hw (by omega) p3 rfl (cut_from w (d + 1)) (List.drop_sublist _ _)
  have t6 : TS1 (eVar 6) env s 1 := TS1.var s h6 ⟨by simpa [Tx] using hc, by simp⟩
  exact ⟨((t1.add t6 (by omega)).add t2 (by omega)).mono (by omega), (t1.add t3 (by omega)).mono (by omega), ((t1.add t6 (by omega)).add t3 (by omega)).mono (by omega)⟩
theorem fn_bent {s : Sto} {l n : Nat} {w : List Nat} (hp : PoolAt s l n) (hn : n < 2 ^ 60) (hw : TB w 200) :
    ∃ r s', m__law_bent [.m l [], .d (.str (S w))] s = .ok (.d (.str (S r))) s' ∧ TB r 50000 ∧ PoolAt s' l (n + 10) ∧ Oth s s' l := by
  have hlt := hp.lt
  have hb : s.length ≠ l := by omega
  have hbl : s.length < (s ++ [none]).length := by simp
  have hwl := hw.le
  have z200 : 1000 ≤ sizeLine := by decide
  have hz : w.length ≤ sizeLine := by omega
  have p0 := hp.more [none]
  obtain ⟨d1, s1, e1, a1, b1, p1, q1⟩ := draw (k := (w.length : Int) + 1) p0 (by omega) (by omega) (Nat.lt_of_le_of_lt (Nat.log2_le_self _) (by omega))
  obtain ⟨d2, s2, e2, a2, b2, p2, q2⟩ := draw (k := 7) p1 (by omega) (by decide) (by decide)
  have f1 : bent1 s.length [some (.m l []), some (.d (.str (S w))), none, none, none, none, none, none, none, none, none] (s ++ [none]) = .ok .nx [some (.m l []), some (.d (.str (S w))), some (.d (.int d1)), some (.d (.int d2)), none, none, none, none, none, none, none] s2 := by
    have tk := q1.take
    have tk2 := (q1.trans q2).take
    rw [List.length_append] at tk tk2
    have tk : s1.take (s.length + 1) = s1 := tk
    have tk2 : s2.take (s.length + 1) = s2 := tk2
    simp [bent1, S_len, hz, e1, e2, tk, q2.take, tk2]
  obtain ⟨z, s3, f3, hzz, p3, q3⟩ := bent3_ok (E := []) (a1 := some (.d (.str (S w)))) (a2 := some (.d (.int d1))) (a3 := some (.d (.int d2))) p2 (by omega)
  obtain ⟨z1, z2, z3⟩ := sg_ok hzz
  have zz : z.length ≤ sizeLine := by omega
  obtain ⟨d4, s4, e4, a4, b4, p4, q4⟩ := draw (k := (z.length : Int)) p3 (by omega) (by omega) (Nat.lt_of_le_of_lt (Nat.log2_le_self _) (by omega))
  have hzl : d4.toNat < (tl z).length := by rw [← len_tl]; omega
  have ix := ix_ok hzl (by rw [← len_tl]; exact zz) s4
  rw [S_tl, Int.toNat_of_nonneg a4] at ix
  have hc : (tl z)[d4.toNat] < 1114112 := by simpa using List.all_eq_true.mp z1 _ (List.getElem_mem hzl)
  generalize (tl z)[d4.toNat] = c at *
  have f4 : bent4 [some (.m l []), some (.d (.str (S w))), some (.d (.int d1)), some (.d (.int d2)), some (.d (.str oth)), some (.d (.str z)), none, none, none, none, none] s3 = .ok .nx [some (.m l []), some (.d (.str (S w))), some (.d (.int d1)), some (.d (.int d2)), some (.d (.str oth)), some (.d (.str z)), some (.d (.str (S [c]))), none, none, none, none] s4 := by
    simp [bent4, zz, e4, q4.take, ix]
  have o4 := (((OthN.of (m := s.length) q1).trans (OthN.of q2)).trans (OthN.of q3)).trans (OthN.of q4)
  obtain ⟨k, rfl⟩ := Int.eq_ofNat_of_zero_le a1
  have main : ∃ r t env', bentU s.length [some (.m l []), some (.d (.str (S w))), some (.d (.int (k : Int))), some (.d (.int d2)), some (.d (.str oth)), some (.d (.str z)), some (.d (.str (S [c]))), none, none, none, none] s4 = .ok (.rt (.d (.str (S r)))) env' t ∧ TB r 50000 ∧ PoolAt t l (n + 10) ∧ OthN s.length s4 t l := by
    obtain ⟨⟨r0, h0, t0⟩, ⟨r1, h1, t1⟩, ⟨r2, h2, t2⟩⟩ := bm_ok (env := [some (.m l []), some (.d (.str (S w))), some (.d (.int (k : Int))), some (.d (.int d2)), some (.d (.str oth)), some (.d (.str z)), some (.d (.str (S [c]))), none, none, none, none]) (s := s4) rfl rfl rfl hw hc
    have hd : d2 = 0 ∨ d2 = 1 ∨ d2 = 2 ∨ d2 = 3 ∨ d2 = 4 ∨ (5 ≤ d2) := by omega
    rcases hd with rfl | rfl | rfl | rfl | rfl | hd
    · exact ⟨r0, s4, _, by simp [bentU, h0]; rfl, t0, p4.mono (by omega), ⟨rfl, fun _ _ _ => rfl⟩⟩
    · exact ⟨r1, s4, _, by simp [bentU, h1]; rfl, t1, p4.mono (by omega), ⟨rfl, fun _ _ _ => rfl⟩⟩
    · exact ⟨r2, s4, _, by simp [bentU, h2]; rfl, t2, p4.mono (by omega), ⟨rfl, fun _ _ _ => rfl⟩⟩
    · obtain ⟨r, t, e, tr, pt, qt⟩ := fn_odd p4 (by omega) hw
      exact ⟨r, t, _, by simp [bentU, e, qt.take]; rfl, ⟨tr.tx, by have := tr.le; omega⟩, pt.mono (by omega), OthN.of qt⟩
    · obtain ⟨r, t, env', e, tr, pt, qt⟩ := way4 (a2 := some (.d (.int (k : Int)))) (a3 := some (.d (.int 4))) (a4 := some (.d (.str oth))) (a5 := some (.d (.str z))) (a6 := some (.d (.str (S [c])))) p4 (by omega) hw (by have := o4.len; rw [this]; exact hbl) hb
      exact ⟨r, t, env', by simp [bentU, e], tr, pt.mono (by omega), qt⟩
    · have n0 : ¬ d2 = 0 := by omega
      have n1 : ¬ d2 = 1 := by omega
      have n2 : ¬ d2 = 2 := by omega
      have n3 : ¬ d2 = 3 := by omega
      have n4 : ¬ d2 = 4 := by omega
      exact ⟨w, s4, _, by simp [bentU, n0, n1, n2, n3, n4]; rfl, ⟨hw.tx, by omega⟩, p4.mono (by omega), ⟨rfl, fun _ _ _ => rfl⟩⟩
  obtain ⟨r, t, env', e, tr, pt, qt⟩ := main
  refine ⟨r, t.take s.length, ?_, tr, pt.less hlt, (o4.trans qt).fin⟩
  unfold m__law_bent
  rw [ev_run1, bent_eq, bentT_eq]
  show SR.fin ((sSeq (bent1 s.length) _) [some (.m l []), some (.d (.str (S w))), none, none, none, none, none, none, none, none, none] (s ++ [none])) s.length = _
  rw [ev_seq, f1, sq_nx, ev_seq, ev_set, ev_stl, ev_c, bn_ok, stl_d, sb_ok, cD_d, sq_nx]
  show SR.fin ((sSeq bent3 _) [some (.m l []), some (.d (.str (S w))), some (.d (.int (k : Int))), some (.d (.int d2)), some (.d (.str oth)), none, none, none, none, none, none] s2) s.length = _
  rw [ev_seq, f3, sq_nx, ev_seq, f4, sq_nx, e, fin_rt]
end LW
end

set_option Elab.async false
set_option linter.all false
set_option maxRecDepth 100000
set_option maxHeartbeats 1000000
noncomputable section
namespace LW
open PySem PySem.Spec PyProof.Rows L2 DL TL SX NumText
theorem val_form (a : Ex) : ∃ g x y, a.val = valD g x y := by cases a <;> exact ⟨_, _, _, rfl⟩
theorem cls_val (a : Ex) (s : Sto) : clsV (.d a.val) s = some (Str.ofString "Value") := by cases a <;> rfl
theorem vof (b : Ex) (s : Sto) : m_value_of [.d b.val] s = .ok (.d b.val) s := by
  obtain ⟨g, x, y, e⟩ := val_form b
  rw [e]; exact fn_value_of g x y s
theorem f_add (a b : Ex) (s : Sto) : m_Value___add__ [.d a.val, .d b.val] s = .ok (.f (Ex.bin "+" a b).tree) s := by
  simp [m_Value___add__, b_Value___add__, mk_Value, vof, tree_bin]
theorem f_sub (a b : Ex) (s : Sto) : m_Value___sub__ [.d a.val, .d b.val] s = .ok (.f (Ex.bin "-" a b).tree) s := by
  simp [m_Value___sub__, b_Value___sub__, mk_Value, vof, tree_bin]
theorem f_mul (a b : Ex) (s : Sto) : m_Value___mul__ [.d a.val, .d b.val] s = .ok (.f (Ex.bin "*" a b).tree) s := by
  simp [m_Value___mul__, b_Value___mul__, mk_Value, vof, tree_bin]
theorem f_and (a b : Ex) (s : Sto) : m_Value___and__ [.d a.val, .d b.val] s = .ok (.f (Ex.bin "&" a b).tree) s := by
  simp [m_Value___and__, b_Value___and__, mk_Value, vof, tree_bin]
theorem f_or (a b : Ex) (s : Sto) : m_Value___or__ [.d a.val, .d b.val] s = .ok (.f (Ex.bin "|" a b).tree) s := by
  simp [m_Value___or__, b_Value___or__, mk_Value, vof, tree_bin]
theorem f_same (a b : Ex) (s : Sto) : m_Value_same [.d a.val, .d b.val] s = .ok (.f (Ex.bin "=" a b).tree) s := by
  simp [m_Value_same, b_Value_same, mk_Value, vof, tree_bin]
theorem f_less (a b : Ex) (s : Sto) : m_Value_less [.d a.val, .d b.val] s = .ok (.f (Ex.bin "<" a b).tree) s := by
  simp [m_Value_less, b_Value_less, mk_Value, vof, tree_bin]
theorem stl_num (i : Int) (s : Sto) : settle (.f (valT "number" (.int i) .non)) s = .ok (.d (Ex.num i).val) s := stl_val _ _ _ s
theorem f_div (a : Ex) (j : Int) (s : Sto) (h : 1 ≤ j) : m_Value___floordiv__ [.d a.val, .d (.int j)] s = .ok (.f (Ex.bin "//" a (.num j)).tree) s := by
  simp [m_Value___floordiv__, b_Value___floordiv__, fn_check_divisor _ _ h, fn_number, stl_num, mk_Value, tree_bin]
theorem f_rest (a : Ex) (j : Int) (s : Sto) (h : 1 ≤ j) : m_Value_rest [.d a.val, .d (.int j)] s = .ok (.f (Ex.bin "mod" a (.num j)).tree) s := by
  simp [m_Value_rest, b_Value_rest, fn_check_divisor _ _ h, fn_number, stl_num, mk_Value, tree_bin]
theorem own_S (f : List Val → M Val) (a b : Ex) (s : Sto) : ownS "Value" f (.d a.val) (.d b.val) s = (f [.d a.val, .d b.val] s).cut s.length := if_pos ⟨cls_val a s, cls_val b s⟩
theorem own_I (f : List Val → M Val) (a : Ex) (j : Int) (s : Sto) : ownI "Value" f (.d a.val) (.d (.int j)) s = (f [.d a.val, .d (.int j)] s).cut s.length := if_pos (cls_val a s)
def meK (m : Str) (ms : List (Str × (List Val → M Val))) (ma : M (List Val)) (v : Val) (s : Sto) : Res Val := match clsM m v s with
  | some c => match ms.lookup c with
    | some f => argsM ma (fun n vs => fcall f n (v :: vs)) s
    | none => .bad
  | none => .bad
@[simp] theorem ev_meth (m : Str) (ms : List (Str × (List Val → M Val))) (mo : En → M Val) (ma : En → M (List Val)) (env : En) (s : Sto) : eMeth m ms mo ma env s = ((mo env s).bnd settle).bnd (meK m ms (ma env)) := rfl
theorem meK_v (m : Str) (hm : m ∈ ([("same" : Str), "less", "rest"] : List Str)) (f : List Val → M Val) (ma : M (List Val)) (a : Ex) (s : Sto) : meK m [("Value", f)] ma (.d a.val) s = (ma s).arg s.length fun vs s1 => (f (.d a.val :: vs) s1).cut s.length := by
  have : clsM m (.d a.val) s = some (Str.ofString "Value") := by
    obtain ⟨g, x, y, e⟩ := val_form a
    rw [e]
    show (if ([("sign", D.str g), ("first", x), ("second", y)] : List (Str × D)).lookup m = none then some (Str.ofString "Value") else none) = _
    rw [if_pos]
    simp only [List.mem_cons, List.not_mem_nil, or_false] at hm
    rcases hm with rfl | rfl | rfl <;> rfl
  unfold meK
  rw [this]
  rfl
theorem in2 (g a b : Str) (s : Sto) : oAlt (inSeq false) (inStr false) (.d (.str g)) (.d (.tup [.str a, .str b])) s = .ok (.d (.bl (decide (a = g) || decide (b = g)))) s := by
  rw [in_tup false _ _ _ rfl rfl]; simp [eqFl]
theorem in3 (g a b c : Str) (s : Sto) : oAlt (inSeq false) (inStr false) (.d (.str g)) (.d (.tup [.str a, .str b, .str c])) s = .ok (.d (.bl (decide (a = g) || (decide (b = g) || decide (c = g))))) s := by
  rw [in_tup false _ _ _ rfl rfl]; simp [eqFl]
theorem part_eq (n : Nat) (args : List Val) : m__law_part (n + 1) args = runF 0 2 (b__law_part (m__law_value n)) args := rfl
theorem Pl.hd {k : Nat} {p : D} {e : Ex} (h : Pl k p e) : ∃ g r, p = .tup (.str g :: r) := by cases h <;> exact ⟨_, _, rfl⟩
theorem part_of {n : Nat} {p : D} {e : Ex} {k : Nat} (hp : Pl k p e) {s : Sto} (h : m__law_value n [.d p, .d (.int 0)] s = .ok (.f e.tree) s) : m__law_part (n + 1) [.d p, .d (.int 0)] s = .ok (.f e.tree) s := by
  obtain ⟨g, r, rfl⟩ := hp.hd
  rw [part_eq]
  simp [b__law_part, ixT0, h]
theorem tree_i (a : Ex) : (Ex.inv a).tree = valT "~" a.val .non := rfl
theorem value_i {m : Nat} {p : D} {e : Ex} {s : Sto} (ih : m__law_value m [.d p, .d (.int 0)] s = .ok (.f e.tree) s) : m__law_value (m + 1) [.d (.tup [.str "~", p]), .d (.int 0)] s = .ok (.f (Ex.inv e).tree) s := by
  have c := cls_val e s
  simp +decide [value_eq, b__law_value, ixT0, ixT1, in2, ih, stl_tree, c, fn_invert, tree_i]
theorem value_d {m : Nat} {g : Str} {p : D} {e : Ex} {s : Sto} {j : Int} (hg : g = "//" ∨ g = "mod") (h1 : 1 ≤ j) (ih : m__law_value m [.d p, .d (.int 0)] s = .ok (.f e.tree) s) : m__law_value (m + 1) [.d (.tup [.str g, p, .int j]), .d (.int 0)] s = .ok (.f (Ex.bin g e (.num j)).tree) s := by
  have m1 := meK_v "rest" (by simp) m_Value_rest
  rcases hg with rfl | rfl
  · simp +decide [value_eq, b__law_value, ixT0, ixT1, ixT2, in2, ih, stl_tree, own_I, f_div _ _ _ h1]
  · simp +decide [value_eq, b__law_value, ixT0, ixT1, ixT2, in2, ih, stl_tree, m1, f_rest _ _ _ h1]
theorem value_b {m : Nat} {g : Str} {p q : D} {e f : Ex} {k : Nat} {s : Sto} (hg : g ∈ s7) (hp : Pl k p e) (hq : Pl k q f) (ih : m__law_value (m + 1) [.d p, .d (.int 0)] s = .ok (.f e.tree) s) (ih1 : m__law_value m [.d p, .d (.int 0)] s = .ok (.f e.tree) s) (ih2 : m__law_value m [.d q, .d (.int 0)] s = .ok (.f f.tree) s) :
    m__law_value (m + 2) [.d (.tup [.str g, p, q]), .d (.int 0)] s = .ok (.f (Ex.bin g e f).tree) s := by
  have m1 := meK_v "same" (by simp) m_Value_same
  have m2 := meK_v "less" (by simp) m_Value_less
  have pp := part_of hp ih1
  have pq := part_of hq ih2
  obtain ⟨h, r, rfl⟩ := hq.hd
  have hg' : g = "+" ∨ g = "-" ∨ g = "*" ∨ g = "&" ∨ g = "|" ∨ g = "=" ∨ g = "<" := by simpa [s7] using hg
  by_cases hn : h = "n"
  · subst hn
    rcases hg' with rfl | rfl | rfl | rfl | rfl | rfl | rfl <;>
      (rw [value_eq]; simp +decide [b__law_value, ixT0, ixT1, ixT2, in2, in3, ih, pp, pq, stl_tree, m1, m2, own_S, f_add, f_sub, f_mul, f_and, f_or, f_same, f_less])
  · rcases hg' with rfl | rfl | rfl | rfl | rfl | rfl | rfl <;>
      (rw [value_eq]; simp +decide [b__law_value, ixT0, ixT1, ixT2, in2, in3, ih, pp, pq, stl_tree, m1, m2, own_S, f_add, f_sub, f_mul, f_and, f_or, f_same, f_less, hn])
theorem value_all : ∀ (k : Nat) {p : D} {e : Ex}, Pl k p e → ∀ (m : Nat) (s : Sto), 2 * k < m → m__law_value m [.d p, .d (.int 0)] s = .ok (.f e.tree) s := by
  intro k p e h
  induction h with
  | n k i hi => intro m s hm; obtain ⟨m, rfl⟩ : ∃ q, m = q + 1 := ⟨m - 1, by omega⟩; exact value_n m i s
  | c k t ht => intro m s hm; obtain ⟨m, rfl⟩ : ∃ q, m = q + 1 := ⟨m - 1, by omega⟩; exact value_c m t s ht
  | g k => intro m s hm; obtain ⟨m, rfl⟩ : ∃ q, m = q + 1 := ⟨m - 1, by omega⟩; exact value_g m s
  | inv k p e h ih => intro m s hm; obtain ⟨m, rfl⟩ : ∃ q, m = q + 1 := ⟨m - 1, by omega⟩; exact value_i (ih m s (by omega))
  | div k g p e j hg h h1 h2 ih => intro m s hm; obtain ⟨m, rfl⟩ : ∃ q, m = q + 1 := ⟨m - 1, by omega⟩; exact value_d hg h1 (ih m s (by omega))
  | bin k g p q e f hg h1 h2 ih1 ih2 => intro m s hm; obtain ⟨m, rfl⟩ : ∃ q, m = q + 2 := ⟨m - 2, by omega⟩; exact value_b hg h1 h2 (ih1 (m + 1) s (by omega)) (ih1 m s (by omega)) (ih2 m s (by omega))
end LW
end

set_option Elab.async false
set_option linter.all false
set_option maxRecDepth 100000
set_option maxHeartbeats 1000000
noncomputable section
namespace LW
open PySem PySem.Spec PyProof.Rows L2 DL TL SX NumText
def lb : Nat → Nat
  | 0 => 5
  | k + 1 => 2 * lb k + 9
theorem small_num {i : Int} (h : i.natAbs ≤ 1000) : TB (tl (Str.ofString (toString i))) 5 := by
  by_cases h0 : 0 ≤ i
  · obtain ⟨n, rfl⟩ := Int.eq_ofNat_of_zero_le h0
    rw [tl_num]
    exact ⟨fun c hc => by have := numL_digits n c hc; omega, by have := numL_len (n := n) (k := 4) (by decide) (by omega); omega⟩
  · obtain ⟨n, rfl, hn⟩ : ∃ n : Nat, i = -(n : Int) ∧ 0 < n := ⟨i.natAbs, by omega, by omega⟩
    rw [tl_neg n hn]
    refine ⟨fun c hc => ?_, by have := numL_len (n := n) (k := 4) (by decide) (by omega); simp; omega⟩
    rcases List.mem_cons.mp hc with rfl | hc
    · decide
    · have := numL_digits n c hc; omega
theorem Tx.cons {c : Nat} {l : List Nat} (h : c < 1114112) (k : Tx l) : Tx (c :: l) := fun d hd => by
  rcases List.mem_cons.mp hd with rfl | hd
  · exact h
  · exact k d hd
theorem lb_ge (k : Nat) : 5 ≤ lb k := by
  cases k with
  | zero => exact Nat.le_refl _
  | succ k => show 5 ≤ 2 * lb k + 9; omega
theorem ops_TB {g : Str} (h : g ∈ (["+", "-", "*", "//", "mod", "&", "|", "=", "<"] : List Str)) : TB (tl g) 3 := by
  have : ((tl g).all fun c => decide (c < 1114112)) = true ∧ (tl g).length ≤ 3 := by revert h; revert g; decide
  exact ⟨fun c hc => by simpa using List.all_eq_true.mp this.1 c hc, this.2⟩
theorem bin_TB {g : Str} {a b : Ex} {k : Nat} (hg : TB (tl g) 3) (ha : TB (shL a) k) (hb : TB (shL b) k) : TB (shL (.bin g a b)) (2 * k + 7) := by
  refine ⟨?_, ?_⟩
  · exact .cons (by decide) (ha.tx.app (.cons (by decide) (hg.tx.app (.cons (by decide) (hb.tx.app (.cons (by decide) nofun))))))
  · have h1 := ha.le
    have h2 := hb.le
    have h3 := hg.le
    show (40 :: (shL a ++ 32 :: (tl g ++ 32 :: (shL b ++ [41])))).length ≤ _
    simp only [List.length_cons, List.length_append, List.length_nil]
    omega
theorem TB.mono {l : List Nat} {j k : Nat} (h : TB l j) (hk : j ≤ k) : TB l k := ⟨h.tx, Nat.le_trans h.le hk⟩
theorem Pl.facts {k : Nat} {p : D} {e : Ex} (h : Pl k p e) : e.dep ≤ k ∧ e.ok ∧ TB (shL e) (lb k) := by
  induction h with
  | n k i hi =>
    refine ⟨Nat.zero_le _, ?_, (small_num hi).mono (lb_ge k)⟩
    exact log_small (by have : 1000 < 10 ^ 20 := by decide
                        omega)
  | c k t ht =>
    refine ⟨Nat.zero_le _, trivial, ?_⟩
    have : ((tl t).all fun c => decide (c < 1114112)) = true ∧ (tl t).length ≤ 5 := by revert ht; revert t; decide
    exact TB.mono ⟨fun c hc => by simpa using List.all_eq_true.mp this.1 c hc, this.2⟩ (lb_ge k)
  | g k =>
    have t : TB (shL .pas) 1 := ⟨.cons (by decide) nofun, Nat.le_refl _⟩
    exact ⟨Nat.zero_le _, trivial, t.mono (by have := lb_ge k; omega)⟩
  | inv k p e h ih =>
    obtain ⟨i1, i2, i3⟩ := ih
    refine ⟨Nat.succ_le_succ i1, i2, ⟨.cons (by decide) i3.tx, ?_⟩⟩
    have := i3.le
    show (126 :: shL e).length ≤ lb (k + 1)
    simp only [List.length_cons, lb]; omega
  | div k g p e j hg h h1 h2 ih =>
    obtain ⟨i1, i2, i3⟩ := ih
    have hgo : g ∈ (["+", "-", "*", "//", "mod", "&", "|", "=", "<"] : List Str) := by rcases hg with rfl | rfl <;> decide
    refine ⟨by show max e.dep 0 + 1 ≤ _; omega, ⟨hgo, i2, ?_⟩, ?_⟩
    · exact log_small (by have : 1000 < 10 ^ 20 := by decide
                          omega)
    · have := bin_TB (b := .num j) (ops_TB hgo) i3 ((small_num (by omega)).mono (lb_ge k))
      exact this.mono (by simp only [lb]; omega)
  | bin k g p q e f hg h1 h2 ih1 ih2 =>
    obtain ⟨i1, i2, i3⟩ := ih1
    obtain ⟨j1, j2, j3⟩ := ih2
    have hgo : g ∈ (["+", "-", "*", "//", "mod", "&", "|", "=", "<"] : List Str) := by revert hg; revert g; decide
    refine ⟨by show max e.dep f.dep + 1 ≤ _; omega, ⟨hgo, i2, j2⟩, (bin_TB (ops_TB hgo) i3 j3).mono (by simp only [lb]; omega)⟩
theorem wording {p : D} {e : Ex} (h : Pl 2 p e) (s : Sto) : m__law_value 60 [.d p, .d (.int 0)] s = .ok (.f e.tree) s ∧ m_show_value 60 [.d e.val] s = .ok (.d (.str (S (shL e)))) s ∧ TB (shL e) 200 := by
  obtain ⟨h1, h2, h3⟩ := h.facts
  have e2 : e.show = S (shL e) := by rw [← tl_show, S_tl]
  have hl := h3.le
  have : lb 2 = 47 := rfl
  refine ⟨value_all 2 h 60 s (by decide), ?_, h3.mono (by omega)⟩
  rw [show_spec e 60 s (by omega) h2 (by rw [e2, S_len]; have : 1000 ≤ sizeLine := by decide
                                         omega), e2]
/-! the closing question -/
def stpT (a : Str) (n v x y : D) : DL.Tree := [([], .ins "Step" [("sign", .d (.str a)), ("name", .d n), ("value", .d v), ("steps", .d x), ("others", .d y)])]
def stpD (a : Str) (n v x y : D) : D := .obj "Step" [("sign", .str a), ("name", n), ("value", v), ("steps", x), ("others", y)]
theorem stl_stp (a : Str) (n v x y : D) (s : Sto) : settle (.f (stpT a n v x y)) s = .ok (.d (stpD a n v x y)) s := stl_f _ _ _ rfl
theorem init_Step (a : Str) (n v x y : D) (s : Sto) : m_Step___init__ [.m s.length [], .d (.str a), .d n, .d v, .d x, .d y] (s ++ [some [([], .ins "Step" [])]]) = .ok (.d .non) (s ++ [some (stpT a n v x y)]) := by
  have e1 : ∀ (env : En) (v : D) (i : Nat) (t : Sto), env[i]? = some (some (.d v)) → stl (eVar i) env t = .ok (.d v) t := fun env v i t h => by rw [ev_stl, ev_var _ _ _ _ h]; rfl
  have h1 := ev_put_end ["Step"] "sign" 0 (eVar 1) [some (.m s.length []), some (.d (.str a)), some (.d n), some (.d v), some (.d x), some (.d y)] s "Step" [] (.str a) rfl (e1 _ _ _ _ rfl) (by decide) (by decide)
  have h2 := ev_put_end ["Step"] "name" 0 (eVar 2) [some (.m s.length []), some (.d (.str a)), some (.d n), some (.d v), some (.d x), some (.d y)] s "Step" [("sign", .d (.str a))] n rfl (e1 _ _ _ _ rfl) (by decide) (show 1 < 1000 by decide)
  have h3 := ev_put_end ["Step"] "value" 0 (eVar 3) [some (.m s.length []), some (.d (.str a)), some (.d n), some (.d v), some (.d x), some (.d y)] s "Step" [("sign", .d (.str a)), ("name", .d n)] v rfl (e1 _ _ _ _ rfl) (by decide) (show 2 < 1000 by decide)
  have h4 := ev_put_end ["Step"] "steps" 0 (eVar 4) [some (.m s.length []), some (.d (.str a)), some (.d n), some (.d v), some (.d x), some (.d y)] s "Step" [("sign", .d (.str a)), ("name", .d n), ("value", .d v)] x rfl (e1 _ _ _ _ rfl) (by decide) (show 3 < 1000 by decide)
  have h5 := ev_put_end ["Step"] "others" 0 (eVar 5) [some (.m s.length []), some (.d (.str a)), some (.d n), some (.d v), some (.d x), some (.d y)] s "Step" [("sign", .d (.str a)), ("name", .d n), ("value", .d v), ("steps", .d x)] y rfl (e1 _ _ _ _ rfl) (by decide) (show 4 < 1000 by decide)
  unfold m_Step___init__
  rw [ev_run0]
  show (((((sPut _ _ _ _ [some (.m s.length []), some (.d (.str a)), some (.d n), some (.d v), some (.d x), some (.d y)] _).sq _)).fin _)) = _
  rw [h1, sq_nx]
  show (((((sPut _ _ _ _ _ (s ++ [some [([], .ins "Step" [("sign", .d (.str a))])]])).sq _)).fin _)) = _
  rw [h2, sq_nx]
  show (((((sPut _ _ _ _ _ (s ++ [some [([], .ins "Step" [("sign", .d (.str a)), ("name", .d n)])]])).sq _)).fin _)) = _
  rw [h3, sq_nx]
  show (((((sPut _ _ _ _ _ (s ++ [some [([], .ins "Step" [("sign", .d (.str a)), ("name", .d n), ("value", .d v)])]])).sq _)).fin _)) = _
  rw [h4, sq_nx]
  show (((((sPut _ _ _ _ _ (s ++ [some [([], .ins "Step" [("sign", .d (.str a)), ("name", .d n), ("value", .d v), ("steps", .d x)])]])).sq _)).fin _)) = _
  rw [h5, sq_nx, ev_nil, fin_nx, List.take_of_length_le (by simp)]
  rfl
theorem mk_Step (a : Str) (n v x y : D) (s : Sto) : mkI "Step" m_Step___init__ s.length [.d (.str a), .d n, .d v, .d x, .d y] s = .ok (.f (stpT a n v x y)) s := mkI_of _ _ _ _ _ _ (init_Step a n v x y s) rfl
def v3 : D := (Ex.num 3).val
theorem vof3 (s : Sto) : m_value_of [.d (.int 3)] s = .ok (.f (valT "number" (.int 3) .non)) s := by
  have h : isiV [("Value", true), ("Step", false)] [("NoneType", false), ("bool", false), ("int", false), ("str", false), ("list", false), ("tuple", false)] (.d (.int 3)) s = .ok (.d (.bl false)) s := rfl
  simp [m_value_of, b_value_of, h, fn_number]
theorem ans3 (s : Sto) : m_answer [.d (.int 3)] s = .ok (.f (stpT "answer" .non v3 (.tup []) (.tup []))) s := by
  simp [m_answer, b_answer, vof3, stl_num, mk_Step, v3]
theorem sst3 (s : Sto) : m_show_steps 60 [.d (.lst [stpD "answer" .non v3 (.tup []) (.tup [])])] s = .ok (.d (.str "answer 3")) s := by
  have sv : m_show_value 60 [.d v3] s = .ok (.d (.str "3")) s := by
    have := show_spec (.num 3) 60 s (by decide) (by show (3 : Nat).log2 < 1920; decide) (by decide +kernel)
    exact this
  have sg : fldV ["Value", "Step"] "sign" (.d (stpD "answer" .non v3 (.tup []) (.tup []))) s = .ok (.d (.str "answer")) s := rfl
  have sval : fldV ["Step"] "value" (.d (stpD "answer" .non v3 (.tup []) (.tup []))) s = .ok (.d v3) s := rfl
  have ss : m_show_step 59 [.d (stpD "answer" .non v3 (.tup []) (.tup []))] s = .ok (.d (.str "answer 3")) s := by
    show runF 0 2 (b_show_step (m_show_steps 58)) [.d (stpD "answer" .non v3 (.tup []) (.tup []))] s = _
    have k1 : (Str.ofString "answer ").length + (Str.ofString "3").length ≤ sizeLine := by decide +kernel
    have k2 : Str.ofString "answer " ++ Str.ofString "3" = Str.ofString "answer 3" := by decide +kernel
    have k3 : ¬ Str.ofString "answer" = Str.ofString "put" := by decide +kernel
    simp [b_show_step, sv, sg, sval, k1, k2, k3]
  show runF 0 2 (b_show_steps (m_show_step 59)) [.d (.lst [stpD "answer" .non v3 (.tup []) (.tup [])])] s = _
  have lc : lcL (gVar 1) tYesM (eCall (m_show_step 59) (rCons (eVar 1) rNil)) (wipeE [some (.d (.lst [stpD "answer" .non v3 (.tup []) (.tup [])])), none] [1]) [stpD "answer" .non v3 (.tup []) (.tup [])] [] s = .ok [.str "answer 3"] s := by
    have := lc_map (g := gVar 1) (mt := tYesM) (me := eCall (m_show_step 59) (rCons (eVar 1) rNil)) (env0 := [some (.d (.lst [stpD "answer" .non v3 (.tup []) (.tup [])])), none]) (s := s) (p := fun _ => true) (f := fun _ => .str "answer 3") (w := fun d => [some (.d (.lst [stpD "answer" .non v3 (.tup []) (.tup [])])), some (.d d)]) [stpD "answer" .non v3 (.tup []) (.tup [])] [] (fun x hx => by
      rw [List.mem_singleton.mp hx]
      exact ⟨rfl, rfl, fun _ => by simp [ss]⟩) (show 0 + 1 ≤ sizeLine by decide)
    exact this
  have jo : joinG (.d (.str "; ")) [.d (.lst [.str "answer 3"])] s = .ok (.d (.str "answer 3")) s := by
    show (if ([Str.ofString "answer 3"].map Str.length).sum + 1 * (Str.ofString "; ").length ≤ 16777216 then Res.ok (Val.d (.str (Txt.join "; " [Str.ofString "answer 3"]))) s else .bad) = _
    rw [if_pos (by decide +kernel), TL.join_eq]; rfl
  simp [b_show_steps, lc, jo]
end LW
end

set_option Elab.async false
set_option linter.all false
set_option maxRecDepth 100000
set_option maxHeartbeats 1000000
noncomputable section
namespace LW
open PySem PySem.Spec PyProof.Rows L2 DL TL SX NumText
def rgK (vs : List Val) (s : Sto) : Res (List D) := match vs with
  | [.d (.int j)] => if -(2 ^ 62) ≤ j ∧ j < 2 ^ 62 then .ok (rngD 0 j.toNat) s else .bad
  | _ => .bad
@[simp] theorem ev_rng1 (mv : En → M (List Val)) (env : En) (s : Sto) : itRng1 mv env s = (mv env s).bnd rgK := rfl
theorem rgK_i (j : Int) (s : Sto) (h0 : 0 ≤ j) (h : j < 1000) : rgK [.d (.int j)] s = .ok (rngD 0 j.toNat) s := if_pos (by omega)
def bTurn : SM := (sSeq (sSet 4 (eCall m__law_bent (rCons (eVar 0) (rCons (eVar 2) (rNil))))) (sSeq (sIf (tVal (eOp2 neV (eCall m__law_caught (rCons (eVar 4) (rNil))) (eIf (tVal (eCall m__law_is_value (rCons (eVar 4) (rNil)))) (eLst (vCons (eVar 4) (vNil))) (eLst (vNil))))) (sSeq (sRet (eC (.bl false))) (sNil)) (sNil)) (sNil)))
theorem turn_run {s : Sto} {l n : Nat} {w : List Nat} {p x3 x4 : Option Val} (hp : PoolAt s l n) (hn : n < 2 ^ 60) (hw : TB w 200) :
    ∃ s' y4, bTurn [some (.m l []), p, some (.d (.str (S w))), x3, x4] s = .ok .nx [some (.m l []), p, some (.d (.str (S w))), x3, y4] s' ∧ PoolAt s' l (n + 10) ∧ Oth s s' l := by
  obtain ⟨r, s', e, tr, p', q⟩ := fn_bent hp hn hw
  have hl : r.length ≤ 900000 := by have := tr.le; omega
  have c := fn_caught r s' hl
  have v := fn_is_value r s' hl tr.tx
  have t := turn_ok r hl tr.tx s'
  refine ⟨s', some (.d (.str (S r))), ?_, p', q⟩
  by_cases h : okT r = true
  · rw [h] at c v
    simp only [h, if_true] at t c
    simp [bTurn, e, q.take, c, v, t]
  · have h' : okT r = false := by simpa using h
    rw [h'] at c v
    simp only [h', Bool.false_eq_true, if_false] at t c
    simp [bTurn, e, q.take, c, v, t]
theorem turns {l : Nat} {w : List Nat} {p : Option Val} (hw : TB w 200) : ∀ (xs : List D) (s : Sto) (n : Nat) (x3 x4 : Option Val), PoolAt s l n → n + 10 * xs.length < 2 ^ 60 →
    ∃ s' y3 y4, forL (gVar 3) bTurn xs [some (.m l []), p, some (.d (.str (S w))), x3, x4] s = .ok .nx [some (.m l []), p, some (.d (.str (S w))), y3, y4] s' ∧ PoolAt s' l (n + 10 * xs.length) ∧ Oth s s' l
  | [], s, n, x3, x4, hp, _ => ⟨s, x3, x4, rfl, hp, Oth.refl s l⟩
  | x :: xs, s, n, x3, x4, hp, hn => by
    simp only [List.length_cons] at hn
    obtain ⟨s1, y4, e, p1, q1⟩ := turn_run (p := p) (x3 := some (.d x)) (x4 := x4) hp (by omega) hw
    obtain ⟨s2, z3, z4, e2, p2, q2⟩ := turns hw xs s1 (n + 10) (some (.d x)) y4 p1 (by omega)
    refine ⟨s2, z3, z4, ?_, p2.mono (by simp only [List.length_cons]; omega), q1.trans q2⟩
    rw [for_cons (env1 := [some (.m l []), p, some (.d (.str (S w))), some (.d x), x4]) _ _ _ rfl, e, lp_nx, e2]
theorem right_eq : b__law_right = fun b => sSeq (sSet 1 (eCall (m__law_worth 60) (rCons (eVar 0) (rCons (eLst (vCons (eC (.str "a")) (vCons (eC (.str "mod")) (vCons (eC (.str "when")) (vNil))))) (rCons (eC (.int 2)) (rNil)))))) (sSeq (sSet 2 (eCall (m_show_value 60) (rCons (eCall (m__law_value 60) (rCons (eVar 1) (rCons (eC (.int 0)) (rNil)))) (rNil)))) (sSeq (sFor (itRng1 (vCons (eC (.int 6)) (vNil))) (gVar 3) bTurn) (sSeq (sRet (eOp2 eqV (eCall (fun vs => (m_show_steps 60) vs) (rCons (eLst (vCons (eCall m_answer (rCons (eC (.int 3)) (rNil))) (vNil))) rNil)) (eC (.str "answer 3")))) (sNil)))) := rfl
theorem fn_right {s : Sto} {l n : Nat} (hp : PoolAt s l n) (hn : n < 2 ^ 50) : ∃ s', m__law_right [.m l []] s = .ok (.d (.bl true)) s' ∧ PoolAt s' l (n + 200) ∧ Oth s s' l := by
  have hc : dcost 2 = 50 := rfl
  obtain ⟨p, e, s1, e1, pl, p1, q1⟩ := worth 2 60 (by decide) hp (by omega)
  obtain ⟨w1, w2, w3⟩ := wording pl s1
  obtain ⟨s2, y3, y4, f, p2, q2⟩ := turns (p := some (.d p)) w3 (rngD 0 6) s1 (n + dcost 2) none none p1 (by rw [show (rngD 0 6).length = 6 from rfl]; omega)
  have q := q1.trans q2
  refine ⟨s2, ?_, p2.mono (by rw [show (rngD 0 6).length = 6 from rfl]; omega), q⟩
  have mk : mkLst [.d (.str "a"), .d (.str "mod"), .d (.str "when")] s = .ok (.f [([], .lst [.str "a", .str "mod", .str "when"])]) s := mkL_of [.str "a", .str "mod", .str "when"] s (show 3 ≤ sizeLine by decide)
  have c1 : (eCall (m__law_worth 60) (rCons (eVar 0) (rCons (eLst (vCons (eC (.str "a")) (vCons (eC (.str "mod")) (vCons (eC (.str "when")) (vNil))))) (rCons (eC (.int 2)) (rNil))))) [some (.m l []), none, none, none, none] s = .ok (.d p) s1 := by
    have e1' : m__law_worth 60 [.m l [], .d (.lst [.str "a", .str "mod", .str "when"]), .d (.int 2)] s = .ok (.d p) s1 := e1
    simp [mk, e1', q1.take]
  have c2 : (eCall (m_show_value 60) (rCons (eCall (m__law_value 60) (rCons (eVar 1) (rCons (eC (.int 0)) (rNil)))) (rNil))) [some (.m l []), some (.d p), none, none, none] s1 = .ok (.d (.str (S (shL e)))) s1 := by
    simp [w1, stl_tree, w2]
  have c4 : (eOp2 eqV (eCall (fun vs => (m_show_steps 60) vs) (rCons (eLst (vCons (eCall m_answer (rCons (eC (.int 3)) (rNil))) (vNil))) rNil)) (eC (.str "answer 3"))) [some (.m l []), some (.d p), some (.d (.str (S (shL e)))), y3, y4] s2 = .ok (.d (.bl true)) s2 := by
    simp [ans3, stl_stp, sst3]
  unfold m__law_right
  rw [ev_run0, right_eq]
  show SR.fin ((sSeq _ _) [some (.m l []), none, none, none, none] s) s.length = _
  rw [ev_seq, ev_set, ev_stl, c1, bn_ok, stl_d, sb_ok, cD_d, sq_nx]
  show SR.fin ((sSeq _ _) [some (.m l []), some (.d p), none, none, none] s1) s.length = _
  rw [ev_seq, ev_set, ev_stl, c2, bn_ok, stl_d, sb_ok, cD_d, sq_nx]
  show SR.fin ((sSeq _ _) [some (.m l []), some (.d p), some (.d (.str (S (shL e)))), none, none] s1) s.length = _
  have c3 : itRng1 (vCons (eC (.int 6)) (vNil)) [some (.m l []), some (.d p), some (.d (.str (S (shL e)))), none, none] s1 = .ok (rngD 0 6) s1 := by
    simp [rgK_i]
  rw [ev_seq, ev_for, c3, sb_ok, f, sq_nx, ev_seq, ev_rt, c4, sb_ok, rtK_d, sq_rt, fin_rt, q.take]
/-! ## the law -/
theorem pool_ok (ns : List Int) (i : Nat) (s : Sto) (hi : i < 100) : ∃ a b : Int, b.natAbs < 2 ^ 100 ∧ m__law_pool [.d (.scr (ns.map .int)), .d (.int (i : Int))] s = .ok (.f [([], .lst [.int a, .int b, .int 0])]) s := by
  have pw : powV (.d (.int 10)) (.d (.int 18)) s = .ok (.d (.int (10 ^ 18))) s := int2_eq (C := cPow) ⟨by decide, by decide⟩
  have md : ∀ j : Int, modV (.d (.int j)) (.d (.int 2305843009213693951)) s = .ok (.d (.int (j % 2305843009213693951))) s := fun j => DL.v_mod _ _ _ (by decide)
  have ml : mulV (.d (.int 7368787)) (.d (.int ((i : Int) + 1))) s = .ok (.d (.int (7368787 * ((i : Int) + 1)))) s := mul_int _ _ _ (.of_left (by decide))
  have mk : ∀ a b : Int, mkLst [.d (.int a), .d (.int b), .d (.int 0)] s = .ok (.f [([], .lst [.int a, .int b, .int 0])]) s := fun a b => mkL_of [.int a, .int b, .int 0] s (show 3 ≤ sizeLine by decide)
  have ab : ∀ j : Int, absG [.d (.int j)] s = .ok (.d (.int (if j < 0 then -j else j))) s := fun _ => rfl
  have mx : ∀ j k : Int, max2G [.d (.int j), .d (.int k)] s = .ok (.d (.int (if k > j then k else j))) s := fun _ _ => rfl
  have ln : lenG [.d (.scr (ns.map .int))] s = .ok (.d (.int (ns.length : Int))) s := by
    show Res.ok (Val.d (.int ((ns.map D.int).length : Nat))) s = _
    rw [List.length_map]
  have main : ∀ j : Int, ∃ a b : Int, b.natAbs < 2 ^ 100 ∧ ((j % 2305843009213693951 + 7368787 * ((i : Int) + 1)) = b) := fun j => ⟨0, _, by
    have h1 : 0 ≤ j % 2305843009213693951 := Int.emod_nonneg _ (by decide)
    have h2 : j % 2305843009213693951 < 2305843009213693951 := Int.emod_lt_of_pos _ (by decide)
    omega, rfl⟩
  by_cases h : i < ns.length
  · have ix : ixSeq (.d (.scr (ns.map .int))) (.d (.int (i : Int))) s = .ok (.d (.int ns[i])) s := by
      have e : atI (ns.map D.int) (i : Int) = some (.int ns[i]) := by
        unfold atI ixN
        rw [if_pos (by omega), if_pos (by rw [List.length_map]; omega)]
        show (ns.map D.int)[i]? = _
        rw [List.getElem?_map, List.getElem?_eq_getElem h]; rfl
      show (match atI (ns.map D.int) (i : Int) with | some d => Res.ok (Val.d d) s | none => .bad) = _
      rw [e]
    obtain ⟨_, b, hb, eb⟩ := main ns[i]
    refine ⟨(if (if ns[i] < 0 then -ns[i] else ns[i]) - 10 ^ 18 > 0 then (if ns[i] < 0 then -ns[i] else ns[i]) - 10 ^ 18 else 0), b, hb, ?_⟩
    rw [← eb]
    simp [m__law_pool, b__law_pool, ln, h, ix, ab, pw, mx, int_int, md, ml, mk]
  · obtain ⟨_, b, hb, eb⟩ := main 0
    refine ⟨0, b, hb, ?_⟩
    rw [← eb]
    simp [m__law_pool, b__law_pool, ln, h, ab, pw, mx, int_int, md, ml, mk]
def bIn : SM := (sSeq (sIf (tNot (tVal (eCall m__law_right (rCons (eVar 2) (rNil))))) (sSeq (sRet (eC (.bl false))) (sNil)) (sNil)) (sNil))
def bOut (b : Nat) : SM := (sSeq (sOwn b 2 0 (eCall m__law_pool (rCons (eVar 0) (rCons (eVar 1) (rNil))))) (sSeq (sFor (itRng1 (vCons (eC (.int 3)) (vNil))) (gVar 3) bIn) (sNil)))
theorem law_eq : b_law = fun b => sSeq (sFor (itRng1 (vCons (eBi max2G (vCons (eC (.int 1)) (vCons (eBi min2G (vCons (eC (.int 8)) (vCons (eBi lenG (vCons (eVar 0) (vNil))) (vNil)))) (vNil)))) (vNil))) (gVar 1) (bOut b)) (sSeq (sRet (eC (.bl true))) (sNil)) := rfl
theorem ins {e0 e1 : Option Val} : ∀ (xs : List D) (s : Sto) (n : Nat) (x3 : Option Val), PoolAt s 0 n → n + 200 * xs.length < 2 ^ 50 →
    ∃ s' y3, forL (gVar 3) bIn xs [e0, e1, some (.m 0 []), x3] s = .ok .nx [e0, e1, some (.m 0 []), y3] s' ∧ s'.length = s.length
  | [], s, n, x3, _, _ => ⟨s, x3, rfl, rfl⟩
  | x :: xs, s, n, x3, hp, hn => by
    simp only [List.length_cons] at hn
    obtain ⟨s1, e, p1, q1⟩ := fn_right hp (by omega)
    obtain ⟨s2, y3, e2, l2⟩ := ins xs s1 (n + 200) (some (.d x)) p1 (by omega)
    refine ⟨s2, y3, ?_, by rw [l2, q1.len]⟩
    rw [for_cons (env1 := [e0, e1, some (.m 0 []), some (.d x)]) _ _ _ rfl]
    have : bIn [e0, e1, some (.m 0 []), some (.d x)] s = .ok .nx [e0, e1, some (.m 0 []), some (.d x)] s1 := by
      simp [bIn, e, q1.take]
    rw [this, lp_nx, e2]
theorem outs (ns : List Int) : ∀ (xs : List Nat) (s : Sto) (x1 x2 x3 : Option Val), s.length = 1 → (∀ i ∈ xs, i < 100) →
    ∃ s' y1 y2 y3, forL (gVar 1) (bOut 0) (xs.map fun i : Nat => D.int (i : Int)) [some (.d (.scr (ns.map .int))), x1, x2, x3] s = .ok .nx [some (.d (.scr (ns.map .int))), y1, y2, y3] s' ∧ s'.length = 1
  | [], s, x1, x2, x3, hs, _ => ⟨s, x1, x2, x3, rfl, hs⟩
  | i :: xs, s, x1, x2, x3, hs, hx => by
    obtain ⟨a, b, hb, ep⟩ := pool_ok ns i s (hx i (by simp))
    have hp : PoolAt (s.set 0 (some [([], .lst [.int a, .int b, .int 0])])) 0 0 := by
      refine ⟨a, b, 0, ?_, hb, by decide⟩
      unfold res
      rw [List.getElem?_set_self (by omega)]; rfl
    obtain ⟨s1, y3, e1, l1⟩ := ins (e0 := some (.d (.scr (ns.map .int)))) (e1 := some (.d (.int (i : Int)))) (rngD 0 3) _ 0 x3 hp (by rw [show (rngD 0 3).length = 3 from rfl]; decide)
    obtain ⟨s2, z1, z2, z3, e2, l2⟩ := outs ns xs s1 (some (.d (.int (i : Int)))) (some (.m 0 [])) y3 (by rw [l1, List.length_set, hs]) (fun j hj => hx j (by simp [hj]))
    refine ⟨s2, z1, z2, z3, ?_, l2⟩
    rw [List.map_cons, for_cons (env1 := [some (.d (.scr (ns.map .int))), some (.d (.int (i : Int))), x2, x3]) _ _ _ rfl]
    have : bOut 0 [some (.d (.scr (ns.map .int))), some (.d (.int (i : Int))), x2, x3] s = .ok .nx [some (.d (.scr (ns.map .int))), some (.d (.int (i : Int))), some (.m 0 []), y3] s1 := by
      have f1 : sOwn 0 2 0 (eCall m__law_pool (rCons (eVar 0) (rCons (eVar 1) (rNil)))) [some (.d (.scr (ns.map .int))), some (.d (.int (i : Int))), x2, x3] s = .ok .nx [some (.d (.scr (ns.map .int))), some (.d (.int (i : Int))), some (.m 0 []), x3] (s.set 0 (some [([], .lst [.int a, .int b, .int 0])])) := by
        have : eCall m__law_pool (rCons (eVar 0) (rCons (eVar 1) (rNil))) [some (.d (.scr (ns.map .int))), some (.d (.int (i : Int))), x2, x3] s = .ok (.f [([], .lst [.int a, .int b, .int 0])]) s := by
          simp [ep]
        show (eCall m__law_pool _ _ s).sb _ _ = _
        rw [this, sb_ok]
        exact if_pos (by omega)
      unfold bOut
      rw [ev_seq, f1, sq_nx, ev_seq, ev_for]
      have c3 : ∀ env s, itRng1 (vCons (eC (.int 3)) (vNil)) env s = .ok (rngD 0 3) s := fun env s => by simp [rgK_i]
      rw [c3, sb_ok, e1, sq_nx, ev_nil]
    rw [this, lp_nx, e2]
theorem law_true : ∀ ns : List Int, ns.length ≤ 63 → ∃ s', m_law [.d (.scr (ns.map .int))] [] = .ok (.d (.bl true)) s' := by
  intro ns hns
  have ln : ∀ s, lenG [.d (.scr (ns.map .int))] s = .ok (.d (.int (ns.length : Int))) s := fun s => by
    show Res.ok (Val.d (.int ((ns.map D.int).length : Nat))) s = _
    rw [List.length_map]
  have mx : ∀ (j k : Int) s, max2G [.d (.int j), .d (.int k)] s = .ok (.d (.int (if k > j then k else j))) s := fun _ _ _ => rfl
  have mn : ∀ (j k : Int) s, min2G [.d (.int j), .d (.int k)] s = .ok (.d (.int (if k < j then k else j))) s := fun _ _ _ => rfl
  have hr : ∃ k : Nat, k ≤ 8 ∧ itRng1 (vCons (eBi max2G (vCons (eC (.int 1)) (vCons (eBi min2G (vCons (eC (.int 8)) (vCons (eBi lenG (vCons (eVar 0) (vNil))) (vNil)))) (vNil)))) (vNil)) [some (.d (.scr (ns.map .int))), none, none, none] ([] ++ [none]) = .ok ((List.range k).map fun i : Nat => D.int (i : Int)) ([] ++ [none]) := by
    obtain ⟨k, hk⟩ : ∃ k : Nat, (if (if (ns.length : Int) < 8 then (ns.length : Int) else 8) > 1 then (if (ns.length : Int) < 8 then (ns.length : Int) else 8) else 1) = (k : Int) ∧ k ≤ 8 := by
      refine ⟨(if (if (ns.length : Int) < 8 then (ns.length : Int) else 8) > 1 then (if (ns.length : Int) < 8 then (ns.length : Int) else 8) else 1).toNat, ?_, ?_⟩ <;> (split <;> split <;> omega)
    refine ⟨k, hk.2, ?_⟩
    have : rgK [.d (.int (k : Int))] ([] ++ [none]) = .ok (rngD 0 k) ([] ++ [none]) := by rw [rgK_i _ _ (by omega) (by omega)]; rfl
    have e2 : rngD 0 k = (List.range k).map fun i : Nat => D.int (i : Int) := by unfold rngD; simp
    have e3 : (vCons (eBi max2G (vCons (eC (.int 1)) (vCons (eBi min2G (vCons (eC (.int 8)) (vCons (eBi lenG (vCons (eVar 0) (vNil))) (vNil)))) (vNil)))) (vNil)) [some (.d (.scr (ns.map .int))), none, none, none] ([] ++ [none]) = .ok [.d (.int (k : Int))] ([] ++ [none]) := by
      rw [← hk.1]
      simp [ln, mx, mn]
    rw [ev_rng1, e3, bn_ok, this, e2]
  obtain ⟨k, hk, hr⟩ := hr
  obtain ⟨s', y1, y2, y3, e, l⟩ := outs ns (List.range k) ([] ++ [none]) none none none rfl (fun i hi => by have := List.mem_range.mp hi; omega)
  refine ⟨s'.take 0, ?_⟩
  unfold m_law
  rw [ev_run1, law_eq]
  show SR.fin ((sSeq _ _) [some (.d (.scr (ns.map .int))), none, none, none] ([] ++ [none])) 0 = _
  rw [ev_seq, ev_for, hr, sb_ok]
  show SR.fin (SR.sq (forL (gVar 1) (bOut 0) ((List.range k).map fun i : Nat => D.int (i : Int)) [some (.d (.scr (ns.map .int))), none, none, none] ([] ++ [none])) _) 0 = _
  rw [e, sq_nx]
  rfl
end LW
end

set_option Elab.async false
set_option linter.all false
set_option maxRecDepth 100000
set_option maxHeartbeats 4000000
noncomputable section
namespace LW
open PySem PySem.Spec PyProof.Rows L2 DL

def top (i : Nat) : Stmt := PySem.Challenge.pw_anyworker_k54_values_that_are_none.main.body.getD i (.Pass ⟨0, 0, 0, 0⟩)
def mtd (i j : Nat) : Stmt := match top i with
  | .ClassDef _ _ _ b _ _ _ _ _ _ _ => b.getD j (.Pass ⟨0, 0, 0, 0⟩)
  | _ => .Pass ⟨0, 0, 0, 0⟩
def d__law_pool : He.DefD := ⟨("_law_pool", none), "_law_pool", "_law_pool", defArgs (top 38), defBody (top 38), defScope (top 38), [], []⟩
def d__law_draw : He.DefD := ⟨("_law_draw", none), "_law_draw", "_law_draw", defArgs (top 39), defBody (top 39), defScope (top 39), [], []⟩
def d__law_worth : He.DefD := ⟨("_law_worth", none), "_law_worth", "_law_worth", defArgs (top 40), defBody (top 40), defScope (top 40), [], []⟩
def d_show_value : He.DefD := ⟨("show_value", none), "show_value", "show_value", defArgs (top 24), defBody (top 24), defScope (top 24), [], []⟩
def d_Value___init__ : He.DefD := ⟨("Value", some "__init__"), "__init__", "Value.__init__", defArgs (mtd 19 0), defBody (mtd 19 0), defScope (mtd 19 0), [], []⟩
def d_number : He.DefD := ⟨("number", none), "number", "number", defArgs (top 13), defBody (top 13), defScope (top 13), [], []⟩
def d_is_name : He.DefD := ⟨("is_name", none), "is_name", "is_name", defArgs (top 8), defBody (top 8), defScope (top 8), [], []⟩
def d_check_name : He.DefD := ⟨("check_name", none), "check_name", "check_name", defArgs (top 9), defBody (top 9), defScope (top 9), [], []⟩
def d_cell : He.DefD := ⟨("cell", none), "cell", "cell", defArgs (top 11), defBody (top 11), defScope (top 11), [], []⟩
def d_passed : He.DefD := ⟨("passed", none), "passed", "passed", defArgs (top 12), defBody (top 12), defScope (top 12), [], []⟩
def d_Value___invert__ : He.DefD := ⟨("Value", some "__invert__"), "__invert__", "Value.__invert__", defArgs (mtd 19 13), defBody (mtd 19 13), defScope (mtd 19 13), [], []⟩
def d_check_divisor : He.DefD := ⟨("check_divisor", none), "check_divisor", "check_divisor", defArgs (top 10), defBody (top 10), defScope (top 10), [], []⟩
def d_Value___floordiv__ : He.DefD := ⟨("Value", some "__floordiv__"), "__floordiv__", "Value.__floordiv__", defArgs (mtd 19 8), defBody (mtd 19 8), defScope (mtd 19 8), [], []⟩
def d_Value_rest : He.DefD := ⟨("Value", some "rest"), "rest", "Value.rest", defArgs (mtd 19 15), defBody (mtd 19 15), defScope (mtd 19 15), [], []⟩
def d_value_of : He.DefD := ⟨("value_of", none), "value_of", "value_of", defArgs (top 14), defBody (top 14), defScope (top 14), [], []⟩
def d_Value_same : He.DefD := ⟨("Value", some "same"), "same", "Value.same", defArgs (mtd 19 16), defBody (mtd 19 16), defScope (mtd 19 16), [], []⟩
def d_Value_less : He.DefD := ⟨("Value", some "less"), "less", "Value.less", defArgs (mtd 19 17), defBody (mtd 19 17), defScope (mtd 19 17), [], []⟩
def d_Value___add__ : He.DefD := ⟨("Value", some "__add__"), "__add__", "Value.__add__", defArgs (mtd 19 2), defBody (mtd 19 2), defScope (mtd 19 2), [], []⟩
def d_Value___sub__ : He.DefD := ⟨("Value", some "__sub__"), "__sub__", "Value.__sub__", defArgs (mtd 19 4), defBody (mtd 19 4), defScope (mtd 19 4), [], []⟩
def d_Value___mul__ : He.DefD := ⟨("Value", some "__mul__"), "__mul__", "Value.__mul__", defArgs (mtd 19 6), defBody (mtd 19 6), defScope (mtd 19 6), [], []⟩
def d_Value___and__ : He.DefD := ⟨("Value", some "__and__"), "__and__", "Value.__and__", defArgs (mtd 19 9), defBody (mtd 19 9), defScope (mtd 19 9), [], []⟩
def d_Value___or__ : He.DefD := ⟨("Value", some "__or__"), "__or__", "Value.__or__", defArgs (mtd 19 11), defBody (mtd 19 11), defScope (mtd 19 11), [], []⟩
def d__law_part : He.DefD := ⟨("_law_part", none), "_law_part", "_law_part", defArgs (top 41), defBody (top 41), defScope (top 41), [], []⟩
def d__law_value : He.DefD := ⟨("_law_value", none), "_law_value", "_law_value", defArgs (top 42), defBody (top 42), defScope (top 42), [], []⟩
def d__law_odd : He.DefD := ⟨("_law_odd", none), "_law_odd", "_law_odd", defArgs (top 48), defBody (top 48), defScope (top 48), [], []⟩
def d__law_bent : He.DefD := ⟨("_law_bent", none), "_law_bent", "_law_bent", defArgs (top 49), defBody (top 49), defScope (top 49), [], []⟩
def d_is_number : He.DefD := ⟨("is_number", none), "is_number", "is_number", defArgs (top 32), defBody (top 32), defScope (top 32), [], []⟩
def d_split_pair : He.DefD := ⟨("split_pair", none), "split_pair", "split_pair", defArgs (top 33), defBody (top 33), defScope (top 33), [], []⟩
def d_value_in : He.DefD := ⟨("value_in", none), "value_in", "value_in", defArgs (top 34), defBody (top 34), defScope (top 34), [], []⟩
def d_value_of_text : He.DefD := ⟨("value_of_text", none), "value_of_text", "value_of_text", defArgs (top 35), defBody (top 35), defScope (top 35), [], []⟩
def d_read_value : He.DefD := ⟨("read_value", none), "read_value", "read_value", defArgs (top 36), defBody (top 36), defScope (top 36), [], []⟩
def d__law_caught : He.DefD := ⟨("_law_caught", none), "_law_caught", "_law_caught", defArgs (top 47), defBody (top 47), defScope (top 47), [], []⟩
def d__law_run : He.DefD := ⟨("_law_run", none), "_law_run", "_law_run", defArgs (top 44), defBody (top 44), defScope (top 44), [], []⟩
def d__law_integer : He.DefD := ⟨("_law_integer", none), "_law_integer", "_law_integer", defArgs (top 43), defBody (top 43), defScope (top 43), [], []⟩
def d__law_ends : He.DefD := ⟨("_law_ends", none), "_law_ends", "_law_ends", defArgs (top 45), defBody (top 45), defScope (top 45), [], []⟩
def d__law_is_value : He.DefD := ⟨("_law_is_value", none), "_law_is_value", "_law_is_value", defArgs (top 46), defBody (top 46), defScope (top 46), [], []⟩
def d_show_step : He.DefD := ⟨("show_step", none), "show_step", "show_step", defArgs (top 25), defBody (top 25), defScope (top 25), [], []⟩
def d_show_steps : He.DefD := ⟨("show_steps", none), "show_steps", "show_steps", defArgs (top 26), defBody (top 26), defScope (top 26), [], []⟩
def d_Step___init__ : He.DefD := ⟨("Step", some "__init__"), "__init__", "Step.__init__", defArgs (mtd 22 0), defBody (mtd 22 0), defScope (mtd 22 0), [], []⟩
def d_answer : He.DefD := ⟨("answer", none), "answer", "answer", defArgs (top 20), defBody (top 20), defScope (top 20), [], []⟩
def d__law_right : He.DefD := ⟨("_law_right", none), "_law_right", "_law_right", defArgs (top 50), defBody (top 50), defScope (top 50), [], []⟩
def d_law : He.DefD := ⟨("law", none), "law", "law", defArgs (top 51), defBody (top 51), defScope (top 51), [], []⟩
def d_WorkError___init__ : He.DefD := ⟨("WorkError", some "__init__"), "__init__", "WorkError.__init__", defArgs (mtd 1 0), defBody (mtd 1 0), defScope (mtd 1 0), [], []⟩
def fns : List He.DefD := [d__law_pool, d__law_draw, d__law_worth, d_show_value, d_Value___init__, d_number, d_is_name, d_check_name, d_cell, d_passed, d_Value___invert__, d_check_divisor, d_Value___floordiv__, d_Value_rest, d_value_of, d_Value_same, d_Value_less, d_Value___add__, d_Value___sub__, d_Value___mul__, d_Value___and__, d_Value___or__, d__law_part, d__law_value, d__law_odd, d__law_bent, d_is_number, d_split_pair, d_value_in, d_value_of_text, d_read_value, d__law_caught, d__law_run, d__law_integer, d__law_ends, d__law_is_value, d_show_step, d_show_steps, d_Step___init__, d_answer, d__law_right, d_law, d_WorkError___init__]
theorem sc__law_pool : FnScope ["script", "spot", "seed"] ["script", "spot"] (defScope (top 38)) := ⟨rfl, rfl, rfl, by decide +kernel, rfl, by decide +kernel, by decide +kernel⟩
theorem sc__law_draw : FnScope ["pool", "span", "drawn", "mixed"] ["pool", "span"] (defScope (top 39)) := ⟨rfl, rfl, rfl, by decide +kernel, rfl, by decide +kernel, by decide +kernel⟩
theorem sc__law_worth : FnScope ["pool", "names_here", "deep", "pick", "by_here", "sign"] ["pool", "names_here", "deep"] (defScope (top 40)) := ⟨rfl, rfl, rfl, by decide +kernel, rfl, by decide +kernel, by decide +kernel⟩
theorem sc_show_value : FnScope ["value"] ["value"] (defScope (top 24)) := ⟨rfl, rfl, rfl, by decide +kernel, rfl, by decide +kernel, by decide +kernel⟩
theorem sc_Value___init__ : FnScope ["self", "sign", "first", "second"] ["self", "sign", "first", "second"] (defScope (mtd 19 0)) := ⟨rfl, rfl, rfl, by decide +kernel, rfl, by decide +kernel, by decide +kernel⟩
theorem sc_number : FnScope ["n"] ["n"] (defScope (top 13)) := ⟨rfl, rfl, rfl, by decide +kernel, rfl, by decide +kernel, by decide +kernel⟩
theorem sc_is_name : FnScope ["name", "letter"] ["name"] (defScope (top 8)) := ⟨rfl, rfl, rfl, by decide +kernel, rfl, by decide +kernel, by decide +kernel⟩
theorem sc_check_name : FnScope ["name"] ["name"] (defScope (top 9)) := ⟨rfl, rfl, rfl, by decide +kernel, rfl, by decide +kernel, by decide +kernel⟩
theorem sc_cell : FnScope ["name"] ["name"] (defScope (top 11)) := ⟨rfl, rfl, rfl, by decide +kernel, rfl, by decide +kernel, by decide +kernel⟩
theorem sc_passed : FnScope [] [] (defScope (top 12)) := ⟨rfl, rfl, rfl, by decide +kernel, rfl, by decide +kernel, by decide +kernel⟩
theorem sc_Value___invert__ : FnScope ["self"] ["self"] (defScope (mtd 19 13)) := ⟨rfl, rfl, rfl, by decide +kernel, rfl, by decide +kernel, by decide +kernel⟩
theorem sc_check_divisor : FnScope ["number"] ["number"] (defScope (top 10)) := ⟨rfl, rfl, rfl, by decide +kernel, rfl, by decide +kernel, by decide +kernel⟩
theorem sc_Value___floordiv__ : FnScope ["self", "other"] ["self", "other"] (defScope (mtd 19 8)) := ⟨rfl, rfl, rfl, by decide +kernel, rfl, by decide +kernel, by decide +kernel⟩
theorem sc_Value_rest : FnScope ["self", "n"] ["self", "n"] (defScope (mtd 19 15)) := ⟨rfl, rfl, rfl, by decide +kernel, rfl, by decide +kernel, by decide +kernel⟩
theorem sc_value_of : FnScope ["part"] ["part"] (defScope (top 14)) := ⟨rfl, rfl, rfl, by decide +kernel, rfl, by decide +kernel, by decide +kernel⟩
theorem sc_Value_same : FnScope ["self", "other"] ["self", "other"] (defScope (mtd 19 16)) := ⟨rfl, rfl, rfl, by decide +kernel, rfl, by decide +kernel, by decide +kernel⟩
theorem sc_Value_less : FnScope ["self", "other"] ["self", "other"] (defScope (mtd 19 17)) := ⟨rfl, rfl, rfl, by decide +kernel, rfl, by decide +kernel, by decide +kernel⟩
theorem sc_Value___add__ : FnScope ["self", "other"] ["self", "other"] (defScope (mtd 19 2)) := ⟨rfl, rfl, rfl, by decide +kernel, rfl, by decide +kernel, by decide +kernel⟩
theorem sc_Value___sub__ : FnScope ["self", "other"] ["self", "other"] (defScope (mtd 19 4)) := ⟨rfl, rfl, rfl, by decide +kernel, rfl, by decide +kernel, by decide +kernel⟩
theorem sc_Value___mul__ : FnScope ["self", "other"] ["self", "other"] (defScope (mtd 19 6)) := ⟨rfl, rfl, rfl, by decide +kernel, rfl, by decide +kernel, by decide +kernel⟩
theorem sc_Value___and__ : FnScope ["self", "other"] ["self", "other"] (defScope (mtd 19 9)) := ⟨rfl, rfl, rfl, by decide +kernel, rfl, by decide +kernel, by decide +kernel⟩
theorem sc_Value___or__ : FnScope ["self", "other"] ["self", "other"] (defScope (mtd 19 11)) := ⟨rfl, rfl, rfl, by decide +kernel, rfl, by decide +kernel, by decide +kernel⟩
theorem sc__law_part : FnScope ["plan", "style"] ["plan", "style"] (defScope (top 41)) := ⟨rfl, rfl, rfl, by decide +kernel, rfl, by decide +kernel, by decide +kernel⟩
theorem sc__law_value : FnScope ["plan", "style", "one", "two"] ["plan", "style"] (defScope (top 42)) := ⟨rfl, rfl, rfl, by decide +kernel, rfl, by decide +kernel, by decide +kernel⟩
theorem sc__law_odd : FnScope ["pool", "wording", "menu", "many", "size"] ["pool", "wording"] (defScope (top 48)) := ⟨rfl, rfl, rfl, by decide +kernel, rfl, by decide +kernel, by decide +kernel⟩
theorem sc__law_bent : FnScope ["pool", "wording", "spot", "way", "others", "signs", "sign", "some", "one", "two", "piece"] ["pool", "wording"] (defScope (top 49)) := ⟨rfl, rfl, rfl, by decide +kernel, rfl, by decide +kernel, by decide +kernel⟩
theorem sc_is_number : FnScope ["text", "most", "digits", "sign"] ["text", "most"] (defScope (top 32)) := ⟨rfl, rfl, rfl, by decide +kernel, rfl, by decide +kernel, by decide +kernel⟩
theorem sc_split_pair : FnScope ["text", "parts", "depth", "index", "part"] ["text"] (defScope (top 33)) := ⟨rfl, rfl, rfl, by decide +kernel, rfl, by decide +kernel, by decide +kernel⟩
theorem sc_value_in : FnScope ["text", "part", "pieces", "first", "second"] ["text"] (defScope (top 34)) := ⟨rfl, rfl, rfl, by decide +kernel, rfl, by decide +kernel, by decide +kernel⟩
theorem sc_value_of_text : FnScope ["text", "found"] ["text"] (defScope (top 35)) := ⟨rfl, rfl, rfl, by decide +kernel, rfl, by decide +kernel, by decide +kernel⟩
theorem sc_read_value : FnScope ["text", "found"] ["text"] (defScope (top 36)) := ⟨rfl, rfl, rfl, by decide +kernel, rfl, by decide +kernel, by decide +kernel⟩
theorem sc__law_caught : FnScope ["wording", "found", "e", "odd"] ["wording"] (defScope (top 47)) := ⟨rfl, rfl, rfl, by decide +kernel, rfl, by decide +kernel, by decide +kernel⟩
theorem sc__law_run : FnScope ["wording", "at", "allowed", "spot"] ["wording", "at", "allowed"] (defScope (top 44)) := ⟨rfl, rfl, rfl, by decide +kernel, rfl, by decide +kernel, by decide +kernel⟩
theorem sc__law_integer : FnScope ["wording", "digits", "sign"] ["wording"] (defScope (top 43)) := ⟨rfl, rfl, rfl, by decide +kernel, rfl, by decide +kernel, by decide +kernel⟩
theorem sc__law_ends : FnScope ["wording", "at", "lead", "letters", "spot", "later", "sign", "end", "part"] ["wording", "at"] (defScope (top 45)) := ⟨rfl, rfl, rfl, by decide +kernel, rfl, by decide +kernel, by decide +kernel⟩
theorem sc__law_is_value : FnScope ["wording"] ["wording"] (defScope (top 46)) := ⟨rfl, rfl, rfl, by decide +kernel, rfl, by decide +kernel, by decide +kernel⟩
theorem sc_show_step : FnScope ["step", "told"] ["step"] (defScope (top 25)) := ⟨rfl, rfl, rfl, by decide +kernel, rfl, by decide +kernel, by decide +kernel⟩
theorem sc_show_steps : FnScope ["steps", "step"] ["steps"] (defScope (top 26)) := ⟨rfl, rfl, rfl, by decide +kernel, rfl, by decide +kernel, by decide +kernel⟩
theorem sc_Step___init__ : FnScope ["self", "sign", "name", "value", "steps", "others"] ["self", "sign", "name", "value", "steps", "others"] (defScope (mtd 22 0)) := ⟨rfl, rfl, rfl, by decide +kernel, rfl, by decide +kernel, by decide +kernel⟩
theorem sc_answer : FnScope ["value"] ["value"] (defScope (top 20)) := ⟨rfl, rfl, rfl, by decide +kernel, rfl, by decide +kernel, by decide +kernel⟩
theorem sc__law_right : FnScope ["pool", "plan", "wording", "turn", "bent"] ["pool"] (defScope (top 50)) := ⟨rfl, rfl, rfl, by decide +kernel, rfl, by decide +kernel, by decide +kernel⟩
theorem sc_law : FnScope ["script", "spot", "pool", "turn"] ["script"] (defScope (top 51)) := ⟨rfl, rfl, rfl, by decide +kernel, rfl, by decide +kernel, by decide +kernel⟩
theorem sc_WorkError___init__ : FnScope ["self", "value"] ["self", "value"] (defScope (mtd 1 0)) := ⟨rfl, rfl, rfl, by decide +kernel, rfl, by decide +kernel, by decide +kernel⟩
def ex0 : List Ck := [ckIOp "Value" .FloorDiv, ckGlo "_law_pool", ckGlo "_law_draw", ckGlo "_law_worth", ckGlo "show_value", ckMk "Value", ckGlo "number", ckGlo "is_name", ckGlo "check_name", ckGlo "cell", ckGlo "passed", ckMth "Value" "__invert__", ckGlo "check_divisor", ckMth "Value" "__floordiv__", ckMth "Value" "rest", ckGlo "value_of", ckMth "Value" "same", ckMth "Value" "less", ckMth "Value" "__add__", ckMth "Value" "__sub__", ckMth "Value" "__mul__", ckMth "Value" "__and__", ckMth "Value" "__or__", ckGlo "_law_part", ckGlo "_law_value"]
def ex1 : List Ck := [ckGlo "_law_odd", ckGlo "_law_bent", ckGlo "is_number", ckGlo "split_pair", ckGlo "value_in", ckGlo "value_of_text", ckGlo "read_value", ckGlo "_law_caught", ckGlo "_law_run", ckGlo "_law_integer", ckGlo "_law_ends", ckGlo "_law_is_value", ckGlo "show_step", ckGlo "show_steps", ckMk "Step", ckGlo "answer", ckGlo "_law_right", ckGlo "law", ckFree "len", ckFree "int", ckFree "abs", ckFree "max", ckFld ["Value", "Step"] "sign", ckFld ["Value"] "first", ckFree "str"]
def ex2 : List Ck := [ckFld ["Value"] "second", ckFld ["Value"] "sign", ckStr "LETTERS" "abcdefghijklmnopqrstuvwxyz", ckFree "all", ckX "InvalidName" "value" ("WorkError", some "__init__"), ckX "InvalidDivisor" "value" ("WorkError", some "__init__"), ckIsf "Value" [("Value", true), ("Step", false)] [("NoneType", false), ("bool", false), ("int", false), ("str", false), ("list", false), ("tuple", false)], ckFree "isinstance", ckGlo "Value", ckStr "DIGITS" "0123456789", ckFree "enumerate", ckInt "MOST_DIGITS" 20, ckGlo "SIGNS", ckTups "SIGNS" ["+", "-", "*", "//", "mod", "&", "|", "=", "<"], ckInt "MOST_SIGNS" 12, ckX "Unreadable" "value" ("WorkError", some "__init__"), ckGlo "InvalidDivisor", ckGlo "InvalidName", ckXis ["InvalidName", "InvalidDivisor"] [("WorkError", false), ("InvalidName", true), ("UnknownName", false), ("InvalidDivisor", true), ("Unreadable", false)], ckGlo "Unreadable", ckXis ["Unreadable"] [("WorkError", false), ("InvalidName", false), ("UnknownName", false), ("InvalidDivisor", false), ("Unreadable", true)], ckXFs ["WorkError", "InvalidName", "UnknownName", "InvalidDivisor", "Unreadable"] "value", ckGlo "WorkError", ckHit "WorkError" [("WorkError", true), ("InvalidName", true), ("UnknownName", true), ("InvalidDivisor", true), ("Unreadable", true)], ckFld ["Step"] "value"]
def ex3 : List Ck := [ckFld ["Step"] "name", ckFld ["Step"] "steps", ckFld ["Step"] "others", ckFld ["Step"] "sign", ckFree "range", ckFree "min"]
def exL : List Ck := ex0 ++ ex1 ++ ex2 ++ ex3
structure Sy (K : PySem.W.Frag) (mg : Str → Option Value) : Prop where
  s : Sx K mg
  t : He.SaysD [] fns K
  e : ∀ (i : Nat) (c : Ck), exL[i]? = some c → c K = true
theorem q0_free {K : PySem.W.Frag} {mg : Str → Option Value} (S : Sy K mg) : mg "len" = none := ck_free S.s (S.e 43 _ rfl)
theorem q1_free {K : PySem.W.Frag} {mg : Str → Option Value} (S : Sy K mg) : mg "int" = none := ck_free S.s (S.e 44 _ rfl)
theorem q2_free {K : PySem.W.Frag} {mg : Str → Option Value} (S : Sy K mg) : mg "abs" = none := ck_free S.s (S.e 45 _ rfl)
theorem q3_free {K : PySem.W.Frag} {mg : Str → Option Value} (S : Sy K mg) : mg "max" = none := ck_free S.s (S.e 46 _ rfl)
theorem q4_fld {K : PySem.W.Frag} {mg : Str → Option Value} (S : Sy K mg) : FldsOk K mg ["Value", "Step"] "sign" := ck_fld S.s (S.e 47 _ rfl)
theorem q5_fld {K : PySem.W.Frag} {mg : Str → Option Value} (S : Sy K mg) : FldsOk K mg ["Value"] "first" := ck_fld S.s (S.e 48 _ rfl)
theorem q6_free {K : PySem.W.Frag} {mg : Str → Option Value} (S : Sy K mg) : mg "str" = none := ck_free S.s (S.e 49 _ rfl)
theorem q7_fld {K : PySem.W.Frag} {mg : Str → Option Value} (S : Sy K mg) : FldsOk K mg ["Value"] "second" := ck_fld S.s (S.e 50 _ rfl)
theorem q8_fld {K : PySem.W.Frag} {mg : Str → Option Value} (S : Sy K mg) : FldsOk K mg ["Value"] "sign" := ck_fld S.s (S.e 51 _ rfl)
theorem q9_str {K : PySem.W.Frag} {mg : Str → Option Value} (S : Sy K mg) : ∃ t, mg "LETTERS" = some (.str "abcdefghijklmnopqrstuvwxyz" t) := ck_str S.s (S.e 52 _ rfl)
theorem q10_free {K : PySem.W.Frag} {mg : Str → Option Value} (S : Sy K mg) : mg "all" = none := ck_free S.s (S.e 53 _ rfl)
theorem q11_xok {P : Program} {w : World} {K : PySem.W.Frag} {mg : Str → Option Value} {base : Heap} (S : Sy K mg) : XOk P w K mg base "InvalidName" "value" 1 := by
  obtain ⟨fd, F⟩ := S.t.def_ 42 (d := d_WorkError___init__) rfl
  exact ck_x S.s (S.e 54 _ rfl) (fn_xinit (k := 0) F sc_WorkError___init__ rfl (.inl rfl) (.inl rfl)) (F.bindsN fun _ _ _ _ _ _ us hl => match us, hl with | [_, _], _ => rfl)
theorem q12_xok {P : Program} {w : World} {K : PySem.W.Frag} {mg : Str → Option Value} {base : Heap} (S : Sy K mg) : XOk P w K mg base "InvalidDivisor" "value" 1 := by
  obtain ⟨fd, F⟩ := S.t.def_ 42 (d := d_WorkError___init__) rfl
  exact ck_x S.s (S.e 55 _ rfl) (fn_xinit (k := 0) F sc_WorkError___init__ rfl (.inl rfl) (.inl rfl)) (F.bindsN fun _ _ _ _ _ _ us hl => match us, hl with | [_, _], _ => rfl)
theorem q13_isf {X : Cx} (S : Sy X.K X.mg) : IsF X (.ref (He.ga X.K "Value")) [("Value", true), ("Step", false)] [("NoneType", false), ("bool", false), ("int", false), ("str", false), ("list", false), ("tuple", false)] := ck_isf S.s (S.e 56 _ rfl)
theorem q14_free {K : PySem.W.Frag} {mg : Str → Option Value} (S : Sy K mg) : mg "isinstance" = none := ck_free S.s (S.e 57 _ rfl)
theorem q15_glo {K : PySem.W.Frag} {mg : Str → Option Value} (S : Sy K mg) : mg "Value" = some (.ref (He.ga K "Value")) := ck_glo S.s (S.e 58 _ rfl)
theorem q16_str {K : PySem.W.Frag} {mg : Str → Option Value} (S : Sy K mg) : ∃ t, mg "DIGITS" = some (.str "0123456789" t) := ck_str S.s (S.e 59 _ rfl)
theorem q17_free {K : PySem.W.Frag} {mg : Str → Option Value} (S : Sy K mg) : mg "enumerate" = none := ck_free S.s (S.e 60 _ rfl)
theorem q18_int {K : PySem.W.Frag} {mg : Str → Option Value} (S : Sy K mg) : ∃ t, mg "MOST_DIGITS" = some (.int 20 t) := ck_int S.s (S.e 61 _ rfl)
theorem q19_glo {K : PySem.W.Frag} {mg : Str → Option Value} (S : Sy K mg) : mg "SIGNS" = some (.ref (He.ga K "SIGNS")) := ck_glo S.s (S.e 62 _ rfl)
theorem q20_tups {K : PySem.W.Frag} {mg : Str → Option Value} {P : Program} {w : World} (S : Sy K mg) (G : Hp) : Rep ⟨P, w, K, mg⟩ G (.ref (He.ga K "SIGNS")) (.tup [.str "+", .str "-", .str "*", .str "//", .str "mod", .str "&", .str "|", .str "=", .str "<"]) := ck_tups (zs := ["+", "-", "*", "//", "mod", "&", "|", "=", "<"]) (S.e 63 _ rfl) G
theorem q21_int {K : PySem.W.Frag} {mg : Str → Option Value} (S : Sy K mg) : ∃ t, mg "MOST_SIGNS" = some (.int 12 t) := ck_int S.s (S.e 64 _ rfl)
theorem q22_xok {P : Program} {w : World} {K : PySem.W.Frag} {mg : Str → Option Value} {base : Heap} (S : Sy K mg) : XOk P w K mg base "Unreadable" "value" 1 := by
  obtain ⟨fd, F⟩ := S.t.def_ 42 (d := d_WorkError___init__) rfl
  exact ck_x S.s (S.e 65 _ rfl) (fn_xinit (k := 0) F sc_WorkError___init__ rfl (.inl rfl) (.inl rfl)) (F.bindsN fun _ _ _ _ _ _ us hl => match us, hl with | [_, _], _ => rfl)
theorem q23_glo {K : PySem.W.Frag} {mg : Str → Option Value} (S : Sy K mg) : mg "InvalidDivisor" = some (.ref (He.ga K "InvalidDivisor")) := ck_glo S.s (S.e 66 _ rfl)
theorem q24_glo {K : PySem.W.Frag} {mg : Str → Option Value} (S : Sy K mg) : mg "InvalidName" = some (.ref (He.ga K "InvalidName")) := ck_glo S.s (S.e 67 _ rfl)
theorem q25_xis {K : PySem.W.Frag} {mg : Str → Option Value} (S : Sy K mg) : XIs K mg [("WorkError", false), ("InvalidName", true), ("UnknownName", false), ("InvalidDivisor", true), ("Unreadable", false)] [.ref (He.ga K "InvalidName"), .ref (He.ga K "InvalidDivisor")] := ck_xis (ns := ["InvalidName", "InvalidDivisor"]) S.s (S.e 68 _ rfl)
theorem q26_glo {K : PySem.W.Frag} {mg : Str → Option Value} (S : Sy K mg) : mg "Unreadable" = some (.ref (He.ga K "Unreadable")) := ck_glo S.s (S.e 69 _ rfl)
theorem q27_xis {K : PySem.W.Frag} {mg : Str → Option Value} (S : Sy K mg) : XIs K mg [("WorkError", false), ("InvalidName", false), ("UnknownName", false), ("InvalidDivisor", false), ("Unreadable", true)] [.ref (He.ga K "Unreadable")] := ck_xis (ns := ["Unreadable"]) S.s (S.e 70 _ rfl)
theorem q28_xval {K : PySem.W.Frag} {mg : Str → Option Value} (S : Sy K mg) : XFs K mg ["WorkError", "InvalidName", "UnknownName", "InvalidDivisor", "Unreadable"] "value" := ck_xfs S.s (S.e 71 _ rfl)
theorem q29_glo {K : PySem.W.Frag} {mg : Str → Option Value} (S : Sy K mg) : mg "WorkError" = some (.ref (He.ga K "WorkError")) := ck_glo S.s (S.e 72 _ rfl)
theorem q30_hit {K : PySem.W.Frag} {mg : Str → Option Value} (S : Sy K mg) : ∀ c b, ([("WorkError", true), ("InvalidName", true), ("UnknownName", true), ("InvalidDivisor", true), ("Unreadable", true)] : List (Str × Bool)).lookup c = some b → ∃ C, mg c = some (.ref C) ∧ PySem.W.exmOne K (.ref C) (.ref (He.ga K "WorkError")) = some b := ck_hit S.s (S.e 73 _ rfl)
theorem q31_fld {K : PySem.W.Frag} {mg : Str → Option Value} (S : Sy K mg) : FldsOk K mg ["Step"] "value" := ck_fld S.s (S.e 74 _ rfl)
theorem q32_fld {K : PySem.W.Frag} {mg : Str → Option Value} (S : Sy K mg) : FldsOk K mg ["Step"] "name" := ck_fld S.s (S.e 75 _ rfl)
theorem q33_fld {K : PySem.W.Frag} {mg : Str → Option Value} (S : Sy K mg) : FldsOk K mg ["Step"] "steps" := ck_fld S.s (S.e 76 _ rfl)
theorem q34_fld {K : PySem.W.Frag} {mg : Str → Option Value} (S : Sy K mg) : FldsOk K mg ["Step"] "others" := ck_fld S.s (S.e 77 _ rfl)
theorem q35_fld {K : PySem.W.Frag} {mg : Str → Option Value} (S : Sy K mg) : FldsOk K mg ["Step"] "sign" := ck_fld S.s (S.e 78 _ rfl)
theorem q36_free {K : PySem.W.Frag} {mg : Str → Option Value} (S : Sy K mg) : mg "range" = none := ck_free S.s (S.e 79 _ rfl)
theorem q37_free {K : PySem.W.Frag} {mg : Str → Option Value} (S : Sy K mg) : mg "min" = none := ck_free S.s (S.e 80 _ rfl)
theorem ok__law_pool {P : Program} {w : World} {K : PySem.W.Frag} {mg : Str → Option Value} {base : Heap} (S : Sy K mg) : DefOk P w K mg base d__law_pool "_law_pool" ["script", "spot"] m__law_pool 1 := by
  obtain ⟨fd, F⟩ := S.t.def_ 0 (d := d__law_pool) rfl
  refine ck_fn S.s (S.e 1 _ rfl) F.kp (?_) (F.bindsN fun _ _ _ _ _ _ us hl => match us, hl with | [_, _], _ => rfl) F
  exact fnDn (k := 0) 0 [] b__law_pool F sc__law_pool rfl fun cdv A outer s H E b hr => by
    have hN := sc__law_pool.nd
    delta b__law_pool
    exact db_cons (ds_set (de_int) hN (i := 2) rfl (.inl rfl) rfl (.inr rfl)) (db_cons (ds_if (dt_cmp od_lt (de_var (i := 1) rfl (.inl rfl) rfl rfl) (de_bi bi_len (by rfl) (q0_free S) boot_len (dv_cons (de_var (i := 0) rfl (.inl rfl) rfl rfl) (dv_nil) rfl)) rfl) (db_cons (ds_set (de_ix id_seq (de_var (i := 0) rfl (.inl rfl) rfl rfl) (de_var (i := 1) rfl (.inl rfl) rfl rfl) (fun _ _ => rfl)) hN (i := 2) rfl (.inl rfl) rfl (.inr rfl)) (db_nil)) (db_nil)) (db_cons (ds_ret (de_lst (dv_cons (de_bi (bi_max2 rfl) (by rfl) (q3_free S) boot_max (dv_cons (de_int) (dv_cons (de_op2 od_sub (de_bi bi_abs (by rfl) (q2_free S) boot_abs (dv_cons (de_var (i := 2) rfl (.inl rfl) rfl rfl) (dv_nil) rfl)) (de_op2 od_pow (de_int) (de_int))) (dv_nil) rfl) rfl)) (dv_cons (de_op2 od_add (de_op2 od_mod (de_bty bi_int (by rfl) (q1_free S) boot_int (dv_cons (de_var (i := 2) rfl (.inl rfl) rfl rfl) (dv_nil) rfl)) (de_int)) (de_op2 od_mul (de_int) (de_op2 od_add (de_var (i := 1) rfl (.inl rfl) rfl rfl) (de_int)))) (dv_cons (de_int) (dv_nil) rfl) rfl) rfl))) (db_nil)))
theorem ok__law_draw {P : Program} {w : World} {K : PySem.W.Frag} {mg : Str → Option Value} {base : Heap} (S : Sy K mg) : DefOk P w K mg base d__law_draw "_law_draw" ["pool", "span"] m__law_draw 1 := by
  obtain ⟨fd, F⟩ := S.t.def_ 1 (d := d__law_draw) rfl
  refine ck_fn S.s (S.e 2 _ rfl) F.kp (?_) (F.bindsN fun _ _ _ _ _ _ us hl => match us, hl with | [_, _], _ => rfl) F
  exact fnDn (k := 0) 0 [] b__law_draw F sc__law_draw rfl fun cdv A outer s H E b hr => by
    have hN := sc__law_draw.nd
    delta b__law_draw
    exact db_cons (ds_if (dt_cmp od_gt (de_ix id_seq (de_var (i := 0) rfl (.inl rfl) rfl rfl) (de_int) (fun _ _ => rfl)) (de_int) rfl) (db_cons (ds_set (de_op2 od_mod (de_bty bi_int (by rfl) (q1_free S) boot_int (dv_cons (de_ix id_seq (de_var (i := 0) rfl (.inl rfl) rfl rfl) (de_int) (fun _ _ => rfl)) (dv_nil) rfl)) (de_var (i := 1) rfl (.inl rfl) rfl rfl)) hN (i := 2) rfl (.inl rfl) rfl (.inr rfl)) (db_cons (ds_store st_list (de_var (i := 0) rfl (.inl rfl) rfl rfl) (de_int) (de_op2 od_fdiv (de_ix id_seq (de_var (i := 0) rfl (.inl rfl) rfl rfl) (de_int) (fun _ _ => rfl)) (de_var (i := 1) rfl (.inl rfl) rfl rfl))) (db_cons (ds_ret (de_var (i := 2) rfl (.inl rfl) rfl rfl)) (db_nil)))) (db_nil)) (db_cons (ds_store st_list (de_var (i := 0) rfl (.inl rfl) rfl rfl) (de_int) (de_op2 od_add (de_ix id_seq (de_var (i := 0) rfl (.inl rfl) rfl rfl) (de_int) (fun _ _ => rfl)) (de_int))) (db_cons (ds_set (de_op2 od_mod (de_bty bi_int (by rfl) (q1_free S) boot_int (dv_cons (de_op2 od_pow (de_op2 od_add (de_ix id_seq (de_var (i := 0) rfl (.inl rfl) rfl rfl) (de_int) (fun _ _ => rfl)) (de_op2 od_mul (de_int) (de_ix id_seq (de_var (i := 0) rfl (.inl rfl) rfl rfl) (de_int) (fun _ _ => rfl)))) (de_int)) (dv_nil) rfl)) (de_int)) hN (i := 3) rfl (.inl rfl) rfl (.inr rfl)) (db_cons (ds_set (de_op2 od_mod (de_bty bi_int (by rfl) (q1_free S) boot_int (dv_cons (de_op2 od_pow (de_op2 od_add (de_var (i := 3) rfl (.inl rfl) rfl rfl) (de_op2 od_mul (de_int) (de_ix id_seq (de_var (i := 0) rfl (.inl rfl) rfl rfl) (de_int) (fun _ _ => rfl)))) (de_int)) (dv_nil) rfl)) (de_int)) hN (i := 3) rfl (.inl rfl) rfl (.inr rfl)) (db_cons (ds_ret (de_op2 od_mod (de_bty bi_int (by rfl) (q1_free S) boot_int (dv_cons (de_op2 od_fdiv (de_var (i := 3) rfl (.inl rfl) rfl rfl) (de_int)) (dv_nil) rfl)) (de_var (i := 1) rfl (.inl rfl) rfl rfl))) (db_nil)))))
theorem okr__law_worth {P : Program} {w : World} {K : PySem.W.Frag} {mg : Str → Option Value} {base : Heap} (S : Sy K mg) : ∀ n : Nat, DefOk P w K mg base d__law_worth "_law_worth" ["pool", "names_here", "deep"] (m__law_worth n) (1 + n * 1)
  | 0 => by
    obtain ⟨fd0, F0⟩ := S.t.def_ 2 (d := d__law_worth) rfl
    exact ck_fn S.s (S.e 3 _ rfl) F0.kp (fnBad) (F0.bindsN fun _ _ _ _ _ _ us hl => match us, hl with | [_, _, _], _ => rfl) F0
  | n + 1 => by
    obtain ⟨fd0, F0⟩ := S.t.def_ 2 (d := d__law_worth) rfl
    have h__law_worth := okr__law_worth (P := P) (w := w) (base := base) S n
    refine ck_fn S.s (S.e 3 _ rfl) F0.kp (?_) (F0.bindsN fun _ _ _ _ _ _ us hl => match us, hl with | [_, _, _], _ => rfl) F0
    · refine fnMono (fnDn (k := 1 + n * 1 + 0) 0 [] (b__law_worth (m__law_worth n)) F0 sc__law_worth rfl fun cdv A outer s H E b hr => ?_) (by omega)
      have hN := sc__law_worth.nd
      delta b__law_worth
      have h__law_draw := ok__law_draw (P := P) (w := w) (base := base) S
      exact db_cons (ds_set (de_if (dt_cmp od_gt (de_var (i := 2) rfl (.inl rfl) rfl rfl) (de_int) rfl) (de_fn h__law_draw hr (by omega) (takes_of rfl rfl rfl rfl) (by rfl) (dr_cons (de_var (i := 0) rfl (.inl rfl) rfl rfl) (dr_cons (de_int) (dr_nil) rfl) rfl)) (de_fn h__law_draw hr (by omega) (takes_of rfl rfl rfl rfl) (by rfl) (dr_cons (de_var (i := 0) rfl (.inl rfl) rfl rfl) (dr_cons (de_int) (dr_nil) rfl) rfl))) hN (i := 3) rfl (.inl rfl) rfl (.inr rfl)) (db_cons (ds_if ((dw_or (dt_cmp (od_eq hr.units) (de_var (i := 3) rfl (.inl rfl) rfl rfl) (de_int) rfl) (dw_or1 ((dw_and (dt_cmp (od_eq hr.units) (de_var (i := 3) rfl (.inl rfl) rfl rfl) (de_int) rfl) (dw_and1 (dt_cmp (od_eq hr.units) (de_var (i := 1) rfl (.inl rfl) rfl rfl) (de_lst (dv_nil)) rfl))).dt))).dt) (db_cons (ds_ret (de_tup (dv_cons (de_str) (dv_cons (de_ix id_seq (de_lst (dv_cons (de_op2 od_sub (de_fn h__law_draw hr (by omega) (takes_of rfl rfl rfl rfl) (by rfl) (dr_cons (de_var (i := 0) rfl (.inl rfl) rfl rfl) (dr_cons (de_int) (dr_nil) rfl) rfl)) (de_int)) (dv_cons (de_op2 od_sub (de_fn h__law_draw hr (by omega) (takes_of rfl rfl rfl rfl) (by rfl) (dr_cons (de_var (i := 0) rfl (.inl rfl) rfl rfl) (dr_cons (de_int) (dr_nil) rfl) rfl)) (de_int)) (dv_nil) rfl) rfl)) (de_bty bi_int (by rfl) (q1_free S) boot_int (dv_cons (de_cmp (od_eq hr.units) (de_fn h__law_draw hr (by omega) (takes_of rfl rfl rfl rfl) (by rfl) (dr_cons (de_var (i := 0) rfl (.inl rfl) rfl rfl) (dr_cons (de_int) (dr_nil) rfl) rfl)) (de_int) rfl) (dv_nil) rfl)) (fun _ _ => rfl)) (dv_nil) rfl) rfl))) (db_nil)) (db_nil)) (db_cons (ds_if (dt_cmp (od_eq hr.units) (de_var (i := 3) rfl (.inl rfl) rfl rfl) (de_int) rfl) (db_cons (ds_ret (de_tup (dv_cons (de_str) (dv_cons (de_ix id_seq (de_var (i := 1) rfl (.inl rfl) rfl rfl) (de_fn h__law_draw hr (by omega) (takes_of rfl rfl rfl rfl) (by rfl) (dr_cons (de_var (i := 0) rfl (.inl rfl) rfl rfl) (dr_cons (de_bi bi_len (by rfl) (q0_free S) boot_len (dv_cons (de_var (i := 1) rfl (.inl rfl) rfl rfl) (dv_nil) rfl)) (dr_nil) rfl) rfl)) (fun _ _ => rfl)) (dv_nil) rfl) rfl))) (db_nil)) (db_nil)) (db_cons (ds_if (dt_cmp (od_eq hr.units) (de_var (i := 3) rfl (.inl rfl) rfl rfl) (de_int) rfl) (db_cons (ds_ret (de_tup (dv_cons (de_str) (dv_nil) rfl))) (db_nil)) (db_nil)) (db_cons (ds_if (dt_cmp (od_eq hr.units) (de_var (i := 3) rfl (.inl rfl) rfl rfl) (de_int) rfl) (db_cons (ds_ret (de_tup (dv_cons (de_str) (dv_cons (de_fn h__law_worth hr (by omega) (takes_of rfl rfl rfl rfl) (by rfl) (dr_cons (de_var (i := 0) rfl (.inl rfl) rfl rfl) (dr_cons (de_var (i := 1) rfl (.inl rfl) rfl rfl) (dr_cons (de_op2 od_sub (de_var (i := 2) rfl (.inl rfl) rfl rfl) (de_int)) (dr_nil) rfl) rfl) rfl)) (dv_nil) rfl) rfl))) (db_nil)) (db_nil)) (db_cons (ds_if (dt_cmp (od_alt od_inSeq od_inStr) (de_var (i := 3) rfl (.inl rfl) rfl rfl) (de_tup (dv_cons (de_int) (dv_cons (de_int) (dv_nil) rfl) rfl)) rfl) (db_cons (ds_set (de_op2 od_add (de_int) (de_fn h__law_draw hr (by omega) (takes_of rfl rfl rfl rfl) (by rfl) (dr_cons (de_var (i := 0) rfl (.inl rfl) rfl rfl) (dr_cons (de_ix id_seq (de_lst (dv_cons (de_int) (dv_cons (de_int) (dv_nil) rfl) rfl)) (de_bty bi_int (by rfl) (q1_free S) boot_int (dv_cons (de_cmp (od_eq hr.units) (de_fn h__law_draw hr (by omega) (takes_of rfl rfl rfl rfl) (by rfl) (dr_cons (de_var (i := 0) rfl (.inl rfl) rfl rfl) (dr_cons (de_int) (dr_nil) rfl) rfl)) (de_int) rfl) (dv_nil) rfl)) (fun _ _ => rfl)) (dr_nil) rfl) rfl))) hN (i := 4) rfl (.inl rfl) rfl (.inr rfl)) (db_cons (ds_ret (de_tup (dv_cons (de_ix id_seq (de_lst (dv_cons (de_str) (dv_cons (de_str) (dv_nil) rfl) rfl)) (de_op2 od_sub (de_var (i := 3) rfl (.inl rfl) rfl rfl) (de_int)) (fun _ _ => rfl)) (dv_cons (de_fn h__law_worth hr (by omega) (takes_of rfl rfl rfl rfl) (by rfl) (dr_cons (de_var (i := 0) rfl (.inl rfl) rfl rfl) (dr_cons (de_var (i := 1) rfl (.inl rfl) rfl rfl) (dr_cons (de_op2 od_sub (de_var (i := 2) rfl (.inl rfl) rfl rfl) (de_int)) (dr_nil) rfl) rfl) rfl)) (dv_cons (de_var (i := 4) rfl (.inl rfl) rfl rfl) (dv_nil) rfl) rfl) rfl))) (db_nil))) (db_nil)) (db_cons (ds_set (de_ix id_seq (de_lst (dv_cons (de_str) (dv_cons (de_str) (dv_cons (de_str) (dv_cons (de_str) (dv_cons (de_str) (dv_cons (de_str) (dv_cons (de_str) (dv_nil) rfl) rfl) rfl) rfl) rfl) rfl) rfl)) (de_op2 od_sub (de_var (i := 3) rfl (.inl rfl) rfl rfl) (de_int)) (fun _ _ => rfl)) hN (i := 5) rfl (.inl rfl) rfl (.inr rfl)) (db_cons (ds_ret (de_tup (dv_cons (de_var (i := 5) rfl (.inl rfl) rfl rfl) (dv_cons (de_fn h__law_worth hr (by omega) (takes_of rfl rfl rfl rfl) (by rfl) (dr_cons (de_var (i := 0) rfl (.inl rfl) rfl rfl) (dr_cons (de_var (i := 1) rfl (.inl rfl) rfl rfl) (dr_cons (de_op2 od_sub (de_var (i := 2) rfl (.inl rfl) rfl rfl) (de_int)) (dr_nil) rfl) rfl) rfl)) (dv_cons (de_fn h__law_worth hr (by omega) (takes_of rfl rfl rfl rfl) (by rfl) (dr_cons (de_var (i := 0) rfl (.inl rfl) rfl rfl) (dr_cons (de_var (i := 1) rfl (.inl rfl) rfl rfl) (dr_cons (de_op2 od_sub (de_var (i := 2) rfl (.inl rfl) rfl rfl) (de_int)) (dr_nil) rfl) rfl) rfl)) (dv_nil) rfl) rfl) rfl))) (db_nil))))))))

theorem ok__law_worth {P : Program} {w : World} {K : PySem.W.Frag} {mg : Str → Option Value} {base : Heap} (S : Sy K mg) (n : Nat) : DefOk P w K mg base d__law_worth "_law_worth" ["pool", "names_here", "deep"] (m__law_worth n) (1 + n * 1) := okr__law_worth S n
theorem okr_show_value {P : Program} {w : World} {K : PySem.W.Frag} {mg : Str → Option Value} {base : Heap} (S : Sy K mg) : ∀ n : Nat, DefOk P w K mg base d_show_value "show_value" ["value"] (m_show_value n) (0 + n * 1)
  | 0 => by
    obtain ⟨fd0, F0⟩ := S.t.def_ 3 (d := d_show_value) rfl
    exact ck_fn S.s (S.e 4 _ rfl) F0.kp (fnBad) (F0.bindsN fun _ _ _ _ _ _ us hl => match us, hl with | [_], _ => rfl) F0
  | n + 1 => by
    obtain ⟨fd0, F0⟩ := S.t.def_ 3 (d := d_show_value) rfl
    have h_show_value := okr_show_value (P := P) (w := w) (base := base) S n
    refine ck_fn S.s (S.e 4 _ rfl) F0.kp (?_) (F0.bindsN fun _ _ _ _ _ _ us hl => match us, hl with | [_], _ => rfl) F0
    · refine fnMono (fnDn (k := 0 + n * 1 + 0) 0 [] (b_show_value (m_show_value n)) F0 sc_show_value rfl fun cdv A outer s H E b hr => ?_) (by omega)
      have hN := sc_show_value.nd
      delta b_show_value
      exact db_cons (ds_if (dt_cmp (od_eq hr.units) (de_at (de_var (i := 0) rfl (.inl rfl) rfl rfl) (rd_fld (q4_fld S))) (de_str) rfl) (db_cons (ds_ret (de_at (de_var (i := 0) rfl (.inl rfl) rfl rfl) (rd_fld (q5_fld S)))) (db_nil)) (db_nil)) (db_cons (ds_if (dt_cmp (od_eq hr.units) (de_at (de_var (i := 0) rfl (.inl rfl) rfl rfl) (rd_fld (q4_fld S))) (de_str) rfl) (db_cons (ds_ret (de_str)) (db_nil)) (db_nil)) (db_cons (ds_if (dt_cmp (od_eq hr.units) (de_at (de_var (i := 0) rfl (.inl rfl) rfl rfl) (rd_fld (q4_fld S))) (de_str) rfl) (db_cons (ds_ret (de_bty bi_str (by rfl) (q6_free S) boot_str (dv_cons (de_at (de_var (i := 0) rfl (.inl rfl) rfl rfl) (rd_fld (q5_fld S))) (dv_nil) rfl))) (db_nil)) (db_nil)) (db_cons (ds_if (dt_cmp (od_eq hr.units) (de_at (de_var (i := 0) rfl (.inl rfl) rfl rfl) (rd_fld (q4_fld S))) (de_str) rfl) (db_cons (ds_ret (de_op2 od_add (de_str) (de_fn h_show_value hr (by omega) (takes_of rfl rfl rfl rfl) (by rfl) (dr_cons (de_at (de_var (i := 0) rfl (.inl rfl) rfl rfl) (rd_fld (q5_fld S))) (dr_nil) rfl)))) (db_nil)) (db_nil)) (db_cons (ds_ret (de_fstr (DJ.cons (de_str) (DJ.cons (de_fmt (de_fn h_show_value hr (by omega) (takes_of rfl rfl rfl rfl) (by rfl) (dr_cons (de_at (de_var (i := 0) rfl (.inl rfl) rfl rfl) (rd_fld (q5_fld S))) (dr_nil) rfl))) (DJ.cons (de_str) (DJ.cons (de_fmt (de_at (de_var (i := 0) rfl (.inl rfl) rfl rfl) (rd_fld (q4_fld S)))) (DJ.cons (de_str) (DJ.cons (de_fmt (de_fn h_show_value hr (by omega) (takes_of rfl rfl rfl rfl) (by rfl) (dr_cons (de_at (de_var (i := 0) rfl (.inl rfl) rfl rfl) (rd_fld (q7_fld S))) (dr_nil) rfl))) (DJ.cons (de_str) (DJ.nil)))))))))) (db_nil)))))

theorem ok_show_value {P : Program} {w : World} {K : PySem.W.Frag} {mg : Str → Option Value} {base : Heap} (S : Sy K mg) (n : Nat) : DefOk P w K mg base d_show_value "show_value" ["value"] (m_show_value n) (0 + n * 1) := okr_show_value S n
theorem ok_Value___init__ {P : Program} {w : World} {K : PySem.W.Frag} {mg : Str → Option Value} {base : Heap} (S : Sy K mg) : MkOk P w K mg base "Value" ["self", "sign", "first", "second"] m_Value___init__ 1 := by
  obtain ⟨fd, F⟩ := S.t.def_ 4 (d := d_Value___init__) rfl
  refine ck_mk S.s (S.e 5 _ rfl) (?_) (F.bindsN fun _ _ _ _ _ _ us hl => match us, hl with | [_, _, _, _], _ => rfl)
  exact fnDn (k := 0) 0 [] b_Value___init__ F sc_Value___init__ rfl fun cdv A outer s H E b hr => by
    have hN := sc_Value___init__.nd
    delta b_Value___init__
    exact db_cons (ds_put (q8_fld S) (de_var (i := 0) rfl (.inl rfl) rfl rfl) (de_var (i := 1) rfl (.inl rfl) rfl rfl)) (db_cons (ds_put (q5_fld S) (de_var (i := 0) rfl (.inl rfl) rfl rfl) (de_var (i := 2) rfl (.inl rfl) rfl rfl)) (db_cons (ds_put (q7_fld S) (de_var (i := 0) rfl (.inl rfl) rfl rfl) (de_var (i := 3) rfl (.inl rfl) rfl rfl)) (db_nil)))
theorem ok_number {P : Program} {w : World} {K : PySem.W.Frag} {mg : Str → Option Value} {base : Heap} (S : Sy K mg) : DefOk P w K mg base d_number "number" ["n"] m_number 3 := by
  obtain ⟨fd, F⟩ := S.t.def_ 5 (d := d_number) rfl
  refine ck_fn S.s (S.e 6 _ rfl) F.kp (?_) (F.bindsN fun _ _ _ _ _ _ us hl => match us, hl with | [_], _ => rfl) F
  exact fnDn (k := 2) 0 [] b_number F sc_number rfl fun cdv A outer s H E b hr => by
    have hN := sc_number.nd
    delta b_number
    have h_Value___init__ := ok_Value___init__ (P := P) (w := w) (base := base) S
    exact db_cons (ds_ret (de_mk h_Value___init__ hr (by omega) (takes_of rfl rfl rfl rfl) (by rfl) (dr_cons (de_str) (dr_cons (de_var (i := 0) rfl (.inl rfl) rfl rfl) (dr_cons (de_non) (dr_nil) rfl) rfl) rfl))) (db_nil)
theorem ok_is_name {P : Program} {w : World} {K : PySem.W.Frag} {mg : Str → Option Value} {base : Heap} (S : Sy K mg) : DefOk P w K mg base d_is_name "is_name" ["name"] m_is_name 1 := by
  obtain ⟨fd, F⟩ := S.t.def_ 6 (d := d_is_name) rfl
  refine ck_fn S.s (S.e 7 _ rfl) F.kp (?_) (F.bindsN fun _ _ _ _ _ _ us hl => match us, hl with | [_], _ => rfl) F
  exact fnDn (k := 0) 0 [] b_is_name F sc_is_name rfl fun cdv A outer s H E b hr => by
    have hN := sc_is_name.nd
    delta b_is_name
    exact db_cons (ds_ret (de_and (de_chain od_le od_le (de_int) (de_bi bi_len (by rfl) (q0_free S) boot_len (dv_cons (de_var (i := 0) rfl (.inl rfl) rfl rfl) (dv_nil) rfl)) (de_int)) (de_one (de_bi (bi_all rfl) (by rfl) (q10_free S) boot_all (dv_cons (de_lc (own := [("letter", 1)]) rfl hN (di_seq (de_var (i := 0) rfl (.inl rfl) rfl rfl)) (blkOk_by (N := ["name", "letter"]) (sc := defScope (top 8)) (own := [("letter", 1)]) (by decide +kernel)) (fun _ _ _ _ _ => dg_var (i := 1) hN rfl (.inl rfl) (.inr rfl) (by simp)) (fun _ _ _ _ _ => dts_nil) (fun _ _ _ _ _ => de_cmp (od_alt od_inSeq od_inStr) (de_var (i := 1) rfl (.inl rfl) rfl rfl) (de_gstr (by rfl) (q9_str S)) rfl)) (dv_nil) rfl))))) (db_nil)
theorem ok_check_name {P : Program} {w : World} {K : PySem.W.Frag} {mg : Str → Option Value} {base : Heap} (S : Sy K mg) : DefOk P w K mg base d_check_name "check_name" ["name"] m_check_name 3 := by
  obtain ⟨fd, F⟩ := S.t.def_ 7 (d := d_check_name) rfl
  refine ck_fn S.s (S.e 8 _ rfl) F.kp (?_) (F.bindsN fun _ _ _ _ _ _ us hl => match us, hl with | [_], _ => rfl) F
  exact fnDn (k := 2) 0 [] b_check_name F sc_check_name rfl fun cdv A outer s H E b hr => by
    have hN := sc_check_name.nd
    delta b_check_name
    have h_is_name := ok_is_name (P := P) (w := w) (base := base) S
    exact db_cons (ds_if (dt_not (dt_val (de_fn h_is_name hr (by omega) (takes_of rfl rfl rfl rfl) (by rfl) (dr_cons (de_var (i := 0) rfl (.inl rfl) rfl rfl) (dr_nil) rfl)))) (db_cons (ds_rais (q11_xok S) hr (by omega) rfl (takes_of rfl rfl rfl rfl) (by rfl) (de_var (i := 0) rfl (.inl rfl) rfl rfl)) (db_nil)) (db_nil)) (db_nil)
theorem ok_cell {P : Program} {w : World} {K : PySem.W.Frag} {mg : Str → Option Value} {base : Heap} (S : Sy K mg) : DefOk P w K mg base d_cell "cell" ["name"] m_cell 4 := by
  obtain ⟨fd, F⟩ := S.t.def_ 8 (d := d_cell) rfl
  refine ck_fn S.s (S.e 9 _ rfl) F.kp (?_) (F.bindsN fun _ _ _ _ _ _ us hl => match us, hl with | [_], _ => rfl) F
  exact fnDn (k := 3) 0 [] b_cell F sc_cell rfl fun cdv A outer s H E b hr => by
    have hN := sc_cell.nd
    delta b_cell
    have h_check_name := ok_check_name (P := P) (w := w) (base := base) S
    have h_Value___init__ := ok_Value___init__ (P := P) (w := w) (base := base) S
    exact db_cons (ds_expr (de_fn h_check_name hr (by omega) (takes_of rfl rfl rfl rfl) (by rfl) (dr_cons (de_var (i := 0) rfl (.inl rfl) rfl rfl) (dr_nil) rfl)) rfl) (db_cons (ds_ret (de_mk h_Value___init__ hr (by omega) (takes_of rfl rfl rfl rfl) (by rfl) (dr_cons (de_str) (dr_cons (de_var (i := 0) rfl (.inl rfl) rfl rfl) (dr_cons (de_non) (dr_nil) rfl) rfl) rfl))) (db_nil))
theorem ok_passed {P : Program} {w : World} {K : PySem.W.Frag} {mg : Str → Option Value} {base : Heap} (S : Sy K mg) : DefOk P w K mg base d_passed "passed" [] m_passed 3 := by
  obtain ⟨fd, F⟩ := S.t.def_ 9 (d := d_passed) rfl
  refine ck_fn S.s (S.e 10 _ rfl) F.kp (?_) (F.bindsN fun _ _ _ _ _ _ us hl => match us, hl with | [], _ => rfl) F
  exact fnDn (k := 2) 0 [] b_passed F sc_passed rfl fun cdv A outer s H E b hr => by
    have hN := sc_passed.nd
    delta b_passed
    have h_Value___init__ := ok_Value___init__ (P := P) (w := w) (base := base) S
    exact db_cons (ds_ret (de_mk h_Value___init__ hr (by omega) (takes_of rfl rfl rfl rfl) (by rfl) (dr_cons (de_str) (dr_cons (de_non) (dr_cons (de_non) (dr_nil) rfl) rfl) rfl))) (db_nil)
theorem ok_Value___invert__ {P : Program} {w : World} {K : PySem.W.Frag} {mg : Str → Option Value} {base : Heap} (S : Sy K mg) : MthOk P w K mg base "Value" "__invert__" ["self"] m_Value___invert__ 3 := by
  obtain ⟨fd, F⟩ := S.t.def_ 10 (d := d_Value___invert__) rfl
  refine ck_mth S.s (S.e 11 _ rfl) (?_) (F.bindsN fun _ _ _ _ _ _ us hl => match us, hl with | [_], _ => rfl)
  exact fnDn (k := 2) 0 [] b_Value___invert__ F sc_Value___invert__ rfl fun cdv A outer s H E b hr => by
    have hN := sc_Value___invert__.nd
    delta b_Value___invert__
    have h_Value___init__ := ok_Value___init__ (P := P) (w := w) (base := base) S
    exact db_cons (ds_ret (de_mk h_Value___init__ hr (by omega) (takes_of rfl rfl rfl rfl) (by rfl) (dr_cons (de_str) (dr_cons (de_var (i := 0) rfl (.inl rfl) rfl rfl) (dr_cons (de_non) (dr_nil) rfl) rfl) rfl))) (db_nil)
theorem ok_check_divisor {P : Program} {w : World} {K : PySem.W.Frag} {mg : Str → Option Value} {base : Heap} (S : Sy K mg) : DefOk P w K mg base d_check_divisor "check_divisor" ["number"] m_check_divisor 3 := by
  obtain ⟨fd, F⟩ := S.t.def_ 11 (d := d_check_divisor) rfl
  refine ck_fn S.s (S.e 12 _ rfl) F.kp (?_) (F.bindsN fun _ _ _ _ _ _ us hl => match us, hl with | [_], _ => rfl) F
  exact fnDn (k := 2) 0 [] b_check_divisor F sc_check_divisor rfl fun cdv A outer s H E b hr => by
    have hN := sc_check_divisor.nd
    delta b_check_divisor
    exact db_cons (ds_if (dt_cmp od_lt (de_var (i := 0) rfl (.inl rfl) rfl rfl) (de_int) rfl) (db_cons (ds_rais (q12_xok S) hr (by omega) rfl (takes_of rfl rfl rfl rfl) (by rfl) (de_var (i := 0) rfl (.inl rfl) rfl rfl)) (db_nil)) (db_nil)) (db_nil)
theorem ok_Value___floordiv__ {P : Program} {w : World} {K : PySem.W.Frag} {mg : Str → Option Value} {base : Heap} (S : Sy K mg) : MthOk P w K mg base "Value" "__floordiv__" ["self", "other"] m_Value___floordiv__ 4 := by
  obtain ⟨fd, F⟩ := S.t.def_ 12 (d := d_Value___floordiv__) rfl
  refine ck_mth S.s (S.e 13 _ rfl) (?_) (F.bindsN fun _ _ _ _ _ _ us hl => match us, hl with | [_, _], _ => rfl)
  exact fnDn (k := 3) 0 [] b_Value___floordiv__ F sc_Value___floordiv__ rfl fun cdv A outer s H E b hr => by
    have hN := sc_Value___floordiv__.nd
    delta b_Value___floordiv__
    have h_check_divisor := ok_check_divisor (P := P) (w := w) (base := base) S
    have h_Value___init__ := ok_Value___init__ (P := P) (w := w) (base := base) S
    have h_number := ok_number (P := P) (w := w) (base := base) S
    exact db_cons (ds_expr (de_fn h_check_divisor hr (by omega) (takes_of rfl rfl rfl rfl) (by rfl) (dr_cons (de_var (i := 1) rfl (.inl rfl) rfl rfl) (dr_nil) rfl)) rfl) (db_cons (ds_ret (de_mk h_Value___init__ hr (by omega) (takes_of rfl rfl rfl rfl) (by rfl) (dr_cons (de_str) (dr_cons (de_var (i := 0) rfl (.inl rfl) rfl rfl) (dr_cons (de_fn h_number hr (by omega) (takes_of rfl rfl rfl rfl) (by rfl) (dr_cons (de_var (i := 1) rfl (.inl rfl) rfl rfl) (dr_nil) rfl)) (dr_nil) rfl) rfl) rfl))) (db_nil))
theorem ok_Value_rest {P : Program} {w : World} {K : PySem.W.Frag} {mg : Str → Option Value} {base : Heap} (S : Sy K mg) : MthOk P w K mg base "Value" "rest" ["self", "n"] m_Value_rest 4 := by
  obtain ⟨fd, F⟩ := S.t.def_ 13 (d := d_Value_rest) rfl
  refine ck_mth S.s (S.e 14 _ rfl) (?_) (F.bindsN fun _ _ _ _ _ _ us hl => match us, hl with | [_, _], _ => rfl)
  exact fnDn (k := 3) 0 [] b_Value_rest F sc_Value_rest rfl fun cdv A outer s H E b hr => by
    have hN := sc_Value_rest.nd
    delta b_Value_rest
    have h_check_divisor := ok_check_divisor (P := P) (w := w) (base := base) S
    have h_Value___init__ := ok_Value___init__ (P := P) (w := w) (base := base) S
    have h_number := ok_number (P := P) (w := w) (base := base) S
    exact db_cons (ds_expr (de_fn h_check_divisor hr (by omega) (takes_of rfl rfl rfl rfl) (by rfl) (dr_cons (de_var (i := 1) rfl (.inl rfl) rfl rfl) (dr_nil) rfl)) rfl) (db_cons (ds_ret (de_mk h_Value___init__ hr (by omega) (takes_of rfl rfl rfl rfl) (by rfl) (dr_cons (de_str) (dr_cons (de_var (i := 0) rfl (.inl rfl) rfl rfl) (dr_cons (de_fn h_number hr (by omega) (takes_of rfl rfl rfl rfl) (by rfl) (dr_cons (de_var (i := 1) rfl (.inl rfl) rfl rfl) (dr_nil) rfl)) (dr_nil) rfl) rfl) rfl))) (db_nil))
theorem ok_value_of {P : Program} {w : World} {K : PySem.W.Frag} {mg : Str → Option Value} {base : Heap} (S : Sy K mg) : DefOk P w K mg base d_value_of "value_of" ["part"] m_value_of 4 := by
  obtain ⟨fd, F⟩ := S.t.def_ 14 (d := d_value_of) rfl
  refine ck_fn S.s (S.e 15 _ rfl) F.kp (?_) (F.bindsN fun _ _ _ _ _ _ us hl => match us, hl with | [_], _ => rfl) F
  exact fnDn (k := 3) 0 [] b_value_of F sc_value_of rfl fun cdv A outer s H E b hr => by
    have hN := sc_value_of.nd
    delta b_value_of
    have h_number := ok_number (P := P) (w := w) (base := base) S
    exact db_cons (ds_ret (de_if (dt_val (de_isi (q13_isf S) (.own _) (by rfl) (q14_free S) (de_var (i := 0) rfl (.inl rfl) rfl rfl) (pe_glob (v := .ref (He.ga K "Value")) (by rfl) (q15_glo S) rfl))) (de_var (i := 0) rfl (.inl rfl) rfl rfl) (de_fn h_number hr (by omega) (takes_of rfl rfl rfl rfl) (by rfl) (dr_cons (de_var (i := 0) rfl (.inl rfl) rfl rfl) (dr_nil) rfl)))) (db_nil)
theorem ok_Value_same {P : Program} {w : World} {K : PySem.W.Frag} {mg : Str → Option Value} {base : Heap} (S : Sy K mg) : MthOk P w K mg base "Value" "same" ["self", "other"] m_Value_same 5 := by
  obtain ⟨fd, F⟩ := S.t.def_ 15 (d := d_Value_same) rfl
  refine ck_mth S.s (S.e 16 _ rfl) (?_) (F.bindsN fun _ _ _ _ _ _ us hl => match us, hl with | [_, _], _ => rfl)
  exact fnDn (k := 4) 0 [] b_Value_same F sc_Value_same rfl fun cdv A outer s H E b hr => by
    have hN := sc_Value_same.nd
    delta b_Value_same
    have h_Value___init__ := ok_Value___init__ (P := P) (w := w) (base := base) S
    have h_value_of := ok_value_of (P := P) (w := w) (base := base) S
    exact db_cons (ds_ret (de_mk h_Value___init__ hr (by omega) (takes_of rfl rfl rfl rfl) (by rfl) (dr_cons (de_str) (dr_cons (de_var (i := 0) rfl (.inl rfl) rfl rfl) (dr_cons (de_fn h_value_of hr (by omega) (takes_of rfl rfl rfl rfl) (by rfl) (dr_cons (de_var (i := 1) rfl (.inl rfl) rfl rfl) (dr_nil) rfl)) (dr_nil) rfl) rfl) rfl))) (db_nil)
theorem ok_Value_less {P : Program} {w : World} {K : PySem.W.Frag} {mg : Str → Option Value} {base : Heap} (S : Sy K mg) : MthOk P w K mg base "Value" "less" ["self", "other"] m_Value_less 5 := by
  obtain ⟨fd, F⟩ := S.t.def_ 16 (d := d_Value_less) rfl
  refine ck_mth S.s (S.e 17 _ rfl) (?_) (F.bindsN fun _ _ _ _ _ _ us hl => match us, hl with | [_, _], _ => rfl)
  exact fnDn (k := 4) 0 [] b_Value_less F sc_Value_less rfl fun cdv A outer s H E b hr => by
    have hN := sc_Value_less.nd
    delta b_Value_less
    have h_Value___init__ := ok_Value___init__ (P := P) (w := w) (base := base) S
    have h_value_of := ok_value_of (P := P) (w := w) (base := base) S
    exact db_cons (ds_ret (de_mk h_Value___init__ hr (by omega) (takes_of rfl rfl rfl rfl) (by rfl) (dr_cons (de_str) (dr_cons (de_var (i := 0) rfl (.inl rfl) rfl rfl) (dr_cons (de_fn h_value_of hr (by omega) (takes_of rfl rfl rfl rfl) (by rfl) (dr_cons (de_var (i := 1) rfl (.inl rfl) rfl rfl) (dr_nil) rfl)) (dr_nil) rfl) rfl) rfl))) (db_nil)
theorem ok_Value___add__ {P : Program} {w : World} {K : PySem.W.Frag} {mg : Str → Option Value} {base : Heap} (S : Sy K mg) : MthOk P w K mg base "Value" "__add__" ["self", "other"] m_Value___add__ 5 := by
  obtain ⟨fd, F⟩ := S.t.def_ 17 (d := d_Value___add__) rfl
  refine ck_mth S.s (S.e 18 _ rfl) (?_) (F.bindsN fun _ _ _ _ _ _ us hl => match us, hl with | [_, _], _ => rfl)
  exact fnDn (k := 4) 0 [] b_Value___add__ F sc_Value___add__ rfl fun cdv A outer s H E b hr => by
    have hN := sc_Value___add__.nd
    delta b_Value___add__
    have h_Value___init__ := ok_Value___init__ (P := P) (w := w) (base := base) S
    have h_value_of := ok_value_of (P := P) (w := w) (base := base) S
    exact db_cons (ds_ret (de_mk h_Value___init__ hr (by omega) (takes_of rfl rfl rfl rfl) (by rfl) (dr_cons (de_str) (dr_cons (de_var (i := 0) rfl (.inl rfl) rfl rfl) (dr_cons (de_fn h_value_of hr (by omega) (takes_of rfl rfl rfl rfl) (by rfl) (dr_cons (de_var (i := 1) rfl (.inl rfl) rfl rfl) (dr_nil) rfl)) (dr_nil) rfl) rfl) rfl))) (db_nil)
theorem ok_Value___sub__ {P : Program} {w : World} {K : PySem.W.Frag} {mg : Str → Option Value} {base : Heap} (S : Sy K mg) : MthOk P w K mg base "Value" "__sub__" ["self", "other"] m_Value___sub__ 5 := by
  obtain ⟨fd, F⟩ := S.t.def_ 18 (d := d_Value___sub__) rfl
  refine ck_mth S.s (S.e 19 _ rfl) (?_) (F.bindsN fun _ _ _ _ _ _ us hl => match us, hl with | [_, _], _ => rfl)
  exact fnDn (k := 4) 0 [] b_Value___sub__ F sc_Value___sub__ rfl fun cdv A outer s H E b hr => by
    have hN := sc_Value___sub__.nd
    delta b_Value___sub__
    have h_Value___init__ := ok_Value___init__ (P := P) (w := w) (base := base) S
    have h_value_of := ok_value_of (P := P) (w := w) (base := base) S
    exact db_cons (ds_ret (de_mk h_Value___init__ hr (by omega) (takes_of rfl rfl rfl rfl) (by rfl) (dr_cons (de_str) (dr_cons (de_var (i := 0) rfl (.inl rfl) rfl rfl) (dr_cons (de_fn h_value_of hr (by omega) (takes_of rfl rfl rfl rfl) (by rfl) (dr_cons (de_var (i := 1) rfl (.inl rfl) rfl rfl) (dr_nil) rfl)) (dr_nil) rfl) rfl) rfl))) (db_nil)
theorem ok_Value___mul__ {P : Program} {w : World} {K : PySem.W.Frag} {mg : Str → Option Value} {base : Heap} (S : Sy K mg) : MthOk P w K mg base "Value" "__mul__" ["self", "other"] m_Value___mul__ 5 := by
  obtain ⟨fd, F⟩ := S.t.def_ 19 (d := d_Value___mul__) rfl
  refine ck_mth S.s (S.e 20 _ rfl) (?_) (F.bindsN fun _ _ _ _ _ _ us hl => match us, hl with | [_, _], _ => rfl)
  exact fnDn (k := 4) 0 [] b_Value___mul__ F sc_Value___mul__ rfl fun cdv A outer s H E b hr => by
    have hN := sc_Value___mul__.nd
    delta b_Value___mul__
    have h_Value___init__ := ok_Value___init__ (P := P) (w := w) (base := base) S
    have h_value_of := ok_value_of (P := P) (w := w) (base := base) S
    exact db_cons (ds_ret (de_mk h_Value___init__ hr (by omega) (takes_of rfl rfl rfl rfl) (by rfl) (dr_cons (de_str) (dr_cons (de_var (i := 0) rfl (.inl rfl) rfl rfl) (dr_cons (de_fn h_value_of hr (by omega) (takes_of rfl rfl rfl rfl) (by rfl) (dr_cons (de_var (i := 1) rfl (.inl rfl) rfl rfl) (dr_nil) rfl)) (dr_nil) rfl) rfl) rfl))) (db_nil)
theorem ok_Value___and__ {P : Program} {w : World} {K : PySem.W.Frag} {mg : Str → Option Value} {base : Heap} (S : Sy K mg) : MthOk P w K mg base "Value" "__and__" ["self", "other"] m_Value___and__ 5 := by
  obtain ⟨fd, F⟩ := S.t.def_ 20 (d := d_Value___and__) rfl
  refine ck_mth S.s (S.e 21 _ rfl) (?_) (F.bindsN fun _ _ _ _ _ _ us hl => match us, hl with | [_, _], _ => rfl)
  exact fnDn (k := 4) 0 [] b_Value___and__ F sc_Value___and__ rfl fun cdv A outer s H E b hr => by
    have hN := sc_Value___and__.nd
    delta b_Value___and__
    have h_Value___init__ := ok_Value___init__ (P := P) (w := w) (base := base) S
    have h_value_of := ok_value_of (P := P) (w := w) (base := base) S
    exact db_cons (ds_ret (de_mk h_Value___init__ hr (by omega) (takes_of rfl rfl rfl rfl) (by rfl) (dr_cons (de_str) (dr_cons (de_var (i := 0) rfl (.inl rfl) rfl rfl) (dr_cons (de_fn h_value_of hr (by omega) (takes_of rfl rfl rfl rfl) (by rfl) (dr_cons (de_var (i := 1) rfl (.inl rfl) rfl rfl) (dr_nil) rfl)) (dr_nil) rfl) rfl) rfl))) (db_nil)
theorem ok_Value___or__ {P : Program} {w : World} {K : PySem.W.Frag} {mg : Str → Option Value} {base : Heap} (S : Sy K mg) : MthOk P w K mg base "Value" "__or__" ["self", "other"] m_Value___or__ 5 := by
  obtain ⟨fd, F⟩ := S.t.def_ 21 (d := d_Value___or__) rfl
  refine ck_mth S.s (S.e 22 _ rfl) (?_) (F.bindsN fun _ _ _ _ _ _ us hl => match us, hl with | [_, _], _ => rfl)
  exact fnDn (k := 4) 0 [] b_Value___or__ F sc_Value___or__ rfl fun cdv A outer s H E b hr => by
    have hN := sc_Value___or__.nd
    delta b_Value___or__
    have h_Value___init__ := ok_Value___init__ (P := P) (w := w) (base := base) S
    have h_value_of := ok_value_of (P := P) (w := w) (base := base) S
    exact db_cons (ds_ret (de_mk h_Value___init__ hr (by omega) (takes_of rfl rfl rfl rfl) (by rfl) (dr_cons (de_str) (dr_cons (de_var (i := 0) rfl (.inl rfl) rfl rfl) (dr_cons (de_fn h_value_of hr (by omega) (takes_of rfl rfl rfl rfl) (by rfl) (dr_cons (de_var (i := 1) rfl (.inl rfl) rfl rfl) (dr_nil) rfl)) (dr_nil) rfl) rfl) rfl))) (db_nil)
theorem okr__law_part__law_value {P : Program} {w : World} {K : PySem.W.Frag} {mg : Str → Option Value} {base : Heap} (S : Sy K mg) : ∀ n : Nat, DefOk P w K mg base d__law_part "_law_part" ["plan", "style"] (m__law_part n) (5 + n * 1) ∧ DefOk P w K mg base d__law_value "_law_value" ["plan", "style"] (m__law_value n) (5 + n * 1)
  | 0 => by
    obtain ⟨fd0, F0⟩ := S.t.def_ 22 (d := d__law_part) rfl
    obtain ⟨fd1, F1⟩ := S.t.def_ 23 (d := d__law_value) rfl
    exact ⟨ck_fn S.s (S.e 23 _ rfl) F0.kp (fnBad) (F0.bindsN fun _ _ _ _ _ _ us hl => match us, hl with | [_, _], _ => rfl) F0, ck_fn S.s (S.e 24 _ rfl) F1.kp (fnBad) (F1.bindsN fun _ _ _ _ _ _ us hl => match us, hl with | [_, _], _ => rfl) F1⟩
  | n + 1 => by
    obtain ⟨fd0, F0⟩ := S.t.def_ 22 (d := d__law_part) rfl
    obtain ⟨fd1, F1⟩ := S.t.def_ 23 (d := d__law_value) rfl
    obtain ⟨h__law_part, h__law_value⟩ := okr__law_part__law_value (P := P) (w := w) (base := base) S n
    refine ⟨ck_fn S.s (S.e 23 _ rfl) F0.kp (?_) (F0.bindsN fun _ _ _ _ _ _ us hl => match us, hl with | [_, _], _ => rfl) F0, ck_fn S.s (S.e 24 _ rfl) F1.kp (?_) (F1.bindsN fun _ _ _ _ _ _ us hl => match us, hl with | [_, _], _ => rfl) F1⟩
    · refine fnMono (fnDn (k := 5 + n * 1 + 0) 0 [] (b__law_part (m__law_value n)) F0 sc__law_part rfl fun cdv A outer s H E b hr => ?_) (by omega)
      have hN := sc__law_part.nd
      delta b__law_part
      exact db_cons (ds_ret (de_if ((dw_and (dt_cmp (od_eq hr.units) (de_ix id_seq (de_var (i := 0) rfl (.inl rfl) rfl rfl) (de_int) (fun _ _ => rfl)) (de_str) rfl) (dw_and1 (dt_cmp (od_eq hr.units) (de_var (i := 1) rfl (.inl rfl) rfl rfl) (de_int) rfl))).dt) (de_ix id_seq (de_var (i := 0) rfl (.inl rfl) rfl rfl) (de_int) (fun _ _ => rfl)) (de_fn h__law_value hr (by omega) (takes_of rfl rfl rfl rfl) (by rfl) (dr_cons (de_var (i := 0) rfl (.inl rfl) rfl rfl) (dr_cons (de_var (i := 1) rfl (.inl rfl) rfl rfl) (dr_nil) rfl) rfl)))) (db_nil)
    · refine fnMono (fnDn (k := 5 + n * 1 + 0) 0 [] (b__law_value (m__law_part n) (m__law_value n)) F1 sc__law_value rfl fun cdv A outer s H E b hr => ?_) (by omega)
      have hN := sc__law_value.nd
      delta b__law_value
      have h_number := ok_number (P := P) (w := w) (base := base) S
      have h_cell := ok_cell (P := P) (w := w) (base := base) S
      have h_passed := ok_passed (P := P) (w := w) (base := base) S
      have h_Value___invert__ := ok_Value___invert__ (P := P) (w := w) (base := base) S
      have h_Value___floordiv__ := ok_Value___floordiv__ (P := P) (w := w) (base := base) S
      have h_Value_rest := ok_Value_rest (P := P) (w := w) (base := base) S
      have h_Value_same := ok_Value_same (P := P) (w := w) (base := base) S
      have h_Value_less := ok_Value_less (P := P) (w := w) (base := base) S
      have h_Value___add__ := ok_Value___add__ (P := P) (w := w) (base := base) S
      have h_Value___sub__ := ok_Value___sub__ (P := P) (w := w) (base := base) S
      have h_Value___mul__ := ok_Value___mul__ (P := P) (w := w) (base := base) S
      have h_Value___and__ := ok_Value___and__ (P := P) (w := w) (base := base) S
      have h_Value___or__ := ok_Value___or__ (P := P) (w := w) (base := base) S
      exact db_cons (ds_if (dt_cmp (od_alt od_inSeq od_inStr) (de_ix id_seq (de_var (i := 0) rfl (.inl rfl) rfl rfl) (de_int) (fun _ _ => rfl)) (de_tup (dv_cons (de_str) (dv_cons (de_str) (dv_nil) rfl) rfl)) rfl) (db_cons (ds_ret (de_if (dt_cmp (od_eq hr.units) (de_ix id_seq (de_var (i := 0) rfl (.inl rfl) rfl rfl) (de_int) (fun _ _ => rfl)) (de_str) rfl) (de_fn h_number hr (by omega) (takes_of rfl rfl rfl rfl) (by rfl) (dr_cons (de_ix id_seq (de_var (i := 0) rfl (.inl rfl) rfl rfl) (de_int) (fun _ _ => rfl)) (dr_nil) rfl)) (de_fn h_cell hr (by omega) (takes_of rfl rfl rfl rfl) (by rfl) (dr_cons (de_ix id_seq (de_var (i := 0) rfl (.inl rfl) rfl rfl) (de_int) (fun _ _ => rfl)) (dr_nil) rfl)))) (db_nil)) (db_nil)) (db_cons (ds_if (dt_cmp (od_eq hr.units) (de_ix id_seq (de_var (i := 0) rfl (.inl rfl) rfl rfl) (de_int) (fun _ _ => rfl)) (de_str) rfl) (db_cons (ds_ret (de_fn0 h_passed hr (by omega) (takes_of rfl rfl rfl rfl) (by rfl))) (db_nil)) (db_nil)) (db_cons (ds_set (de_fn h__law_value hr (by omega) (takes_of rfl rfl rfl rfl) (by rfl) (dr_cons (de_ix id_seq (de_var (i := 0) rfl (.inl rfl) rfl rfl) (de_int) (fun _ _ => rfl)) (dr_cons (de_var (i := 1) rfl (.inl rfl) rfl rfl) (dr_nil) rfl) rfl)) hN (i := 2) rfl (.inl rfl) rfl (.inr rfl)) (db_cons (ds_if (dt_cmp (od_eq hr.units) (de_ix id_seq (de_var (i := 0) rfl (.inl rfl) rfl rfl) (de_int) (fun _ _ => rfl)) (de_str) rfl) (db_cons (ds_ret (de_invf h_Value___invert__ hr (by omega) (takes_of rfl rfl rfl rfl) rfl (de_var (i := 2) rfl (.inl rfl) rfl rfl))) (db_nil)) (db_nil)) (db_cons (ds_if (dt_cmp (od_alt od_inSeq od_inStr) (de_ix id_seq (de_var (i := 0) rfl (.inl rfl) rfl rfl) (de_int) (fun _ _ => rfl)) (de_tup (dv_cons (de_str) (dv_cons (de_str) (dv_nil) rfl) rfl)) rfl) (db_cons (ds_ret (de_if (dt_cmp (od_eq hr.units) (de_ix id_seq (de_var (i := 0) rfl (.inl rfl) rfl rfl) (de_int) (fun _ _ => rfl)) (de_str) rfl) (de_opE (oe_int (op := .FloorDiv) h_Value___floordiv__ hr (by omega) (takes_of rfl rfl rfl rfl) rfl S.s (S.e 0 _ rfl)) (de_var (i := 2) rfl (.inl rfl) rfl rfl) (de_ix id_seq (de_var (i := 0) rfl (.inl rfl) rfl rfl) (de_int) (fun _ _ => rfl))) (de_meth (de_var (i := 2) rfl (.inl rfl) rfl rfl) (dr_cons (de_ix id_seq (de_var (i := 0) rfl (.inl rfl) rfl rfl) (de_int) (fun _ _ => rfl)) (dr_nil) rfl) (MethFs.cons (mth_f h_Value_rest hr (by omega) (takes_of rfl rfl rfl rfl) rfl) (MethFs.nil))))) (db_nil)) (db_nil)) (db_cons (ds_set (de_fn h__law_part hr (by omega) (takes_of rfl rfl rfl rfl) (by rfl) (dr_cons (de_ix id_seq (de_var (i := 0) rfl (.inl rfl) rfl rfl) (de_int) (fun _ _ => rfl)) (dr_cons (de_var (i := 1) rfl (.inl rfl) rfl rfl) (dr_nil) rfl) rfl)) hN (i := 3) rfl (.inl rfl) rfl (.inr rfl)) (db_cons (ds_if (dt_cmp (od_alt od_inSeq od_inStr) (de_ix id_seq (de_var (i := 0) rfl (.inl rfl) rfl rfl) (de_int) (fun _ _ => rfl)) (de_tup (dv_cons (de_str) (dv_cons (de_str) (dv_nil) rfl) rfl)) rfl) (db_cons (ds_ret (de_if (dt_cmp (od_eq hr.units) (de_ix id_seq (de_var (i := 0) rfl (.inl rfl) rfl rfl) (de_int) (fun _ _ => rfl)) (de_str) rfl) (de_meth (de_var (i := 2) rfl (.inl rfl) rfl rfl) (dr_cons (de_var (i := 3) rfl (.inl rfl) rfl rfl) (dr_nil) rfl) (MethFs.cons (mth_f h_Value_same hr (by omega) (takes_of rfl rfl rfl rfl) rfl) (MethFs.nil))) (de_meth (de_var (i := 2) rfl (.inl rfl) rfl rfl) (dr_cons (de_var (i := 3) rfl (.inl rfl) rfl rfl) (dr_nil) rfl) (MethFs.cons (mth_f h_Value_less hr (by omega) (takes_of rfl rfl rfl rfl) rfl) (MethFs.nil))))) (db_nil)) (db_nil)) (db_cons (ds_if (dt_cmp (od_ne hr.units) (de_ix id_seq (de_ix id_seq (de_var (i := 0) rfl (.inl rfl) rfl rfl) (de_int) (fun _ _ => rfl)) (de_int) (fun _ _ => rfl)) (de_str) rfl) (db_cons (ds_set (de_fn h__law_part hr (by omega) (takes_of rfl rfl rfl rfl) (by rfl) (dr_cons (de_ix id_seq (de_var (i := 0) rfl (.inl rfl) rfl rfl) (de_int) (fun _ _ => rfl)) (dr_cons (de_var (i := 1) rfl (.inl rfl) rfl rfl) (dr_nil) rfl) rfl)) hN (i := 2) rfl (.inl rfl) rfl (.inr rfl)) (db_nil)) (db_nil)) (db_cons (ds_if (dt_cmp (od_alt od_inSeq od_inStr) (de_ix id_seq (de_var (i := 0) rfl (.inl rfl) rfl rfl) (de_int) (fun _ _ => rfl)) (de_tup (dv_cons (de_str) (dv_cons (de_str) (dv_cons (de_str) (dv_nil) rfl) rfl) rfl)) rfl) (db_cons (ds_ret (de_if (dt_cmp (od_eq hr.units) (de_ix id_seq (de_var (i := 0) rfl (.inl rfl) rfl rfl) (de_int) (fun _ _ => rfl)) (de_str) rfl) (de_opE (oe_same (op := .Add) h_Value___add__ hr (by omega) (takes_of rfl rfl rfl rfl) rfl) (de_var (i := 2) rfl (.inl rfl) rfl rfl) (de_var (i := 3) rfl (.inl rfl) rfl rfl)) (de_if (dt_cmp (od_eq hr.units) (de_ix id_seq (de_var (i := 0) rfl (.inl rfl) rfl rfl) (de_int) (fun _ _ => rfl)) (de_str) rfl) (de_opE (oe_same (op := .Sub) h_Value___sub__ hr (by omega) (takes_of rfl rfl rfl rfl) rfl) (de_var (i := 2) rfl (.inl rfl) rfl rfl) (de_var (i := 3) rfl (.inl rfl) rfl rfl)) (de_opE (oe_same (op := .Mult) h_Value___mul__ hr (by omega) (takes_of rfl rfl rfl rfl) rfl) (de_var (i := 2) rfl (.inl rfl) rfl rfl) (de_var (i := 3) rfl (.inl rfl) rfl rfl))))) (db_nil)) (db_nil)) (db_cons (ds_ret (de_if (dt_cmp (od_eq hr.units) (de_ix id_seq (de_var (i := 0) rfl (.inl rfl) rfl rfl) (de_int) (fun _ _ => rfl)) (de_str) rfl) (de_opE (oe_same (op := .BitAnd) h_Value___and__ hr (by omega) (takes_of rfl rfl rfl rfl) rfl) (de_var (i := 2) rfl (.inl rfl) rfl rfl) (de_var (i := 3) rfl (.inl rfl) rfl rfl)) (de_opE (oe_same (op := .BitOr) h_Value___or__ hr (by omega) (takes_of rfl rfl rfl rfl) rfl) (de_var (i := 2) rfl (.inl rfl) rfl rfl) (de_var (i := 3) rfl (.inl rfl) rfl rfl)))) (db_nil))))))))))

theorem ok__law_part {P : Program} {w : World} {K : PySem.W.Frag} {mg : Str → Option Value} {base : Heap} (S : Sy K mg) (n : Nat) : DefOk P w K mg base d__law_part "_law_part" ["plan", "style"] (m__law_part n) (5 + n * 1) := (okr__law_part__law_value S n).1
theorem ok__law_value {P : Program} {w : World} {K : PySem.W.Frag} {mg : Str → Option Value} {base : Heap} (S : Sy K mg) (n : Nat) : DefOk P w K mg base d__law_value "_law_value" ["plan", "style"] (m__law_value n) (5 + n * 1) := (okr__law_part__law_value S n).2
theorem ok__law_odd {P : Program} {w : World} {K : PySem.W.Frag} {mg : Str → Option Value} {base : Heap} (S : Sy K mg) : DefOk P w K mg base d__law_odd "_law_odd" ["pool", "wording"] m__law_odd 2 := by
  obtain ⟨fd, F⟩ := S.t.def_ 24 (d := d__law_odd) rfl
  refine ck_fn S.s (S.e 25 _ rfl) F.kp (?_) (F.bindsN fun _ _ _ _ _ _ us hl => match us, hl with | [_, _], _ => rfl) F
  exact fnDn (k := 1) 1 [(2, 0)] b__law_odd F sc__law_odd rfl fun cdv A outer s H E b hr => by
    have hN := sc__law_odd.nd
    delta b__law_odd
    have h__law_draw := ok__law_draw (P := P) (w := w) (base := base) S
    exact db_cons (ds_own (de_lst (dv_cons (de_str) (dv_cons (de_str) (dv_cons (de_str) (dv_cons (de_str) (dv_cons (de_str) (dv_cons (de_str) (dv_cons (de_str) (dv_cons (de_str) (dv_cons (de_str) (dv_cons (de_str) (dv_cons (de_str) (dv_cons (de_str) (dv_cons (de_str) (dv_cons (de_str) (dv_nil) rfl) rfl) rfl) rfl) rfl) rfl) rfl) rfl) rfl) rfl) rfl) rfl) rfl) rfl)) rfl hN (i := 2) rfl (.inl rfl) rfl (.inr rfl)) (db_cons (ds_own (de_op2 od_add (de_var (i := 2) rfl (.inl rfl) rfl rfl) (de_lst (dv_cons (de_str) (dv_cons (de_str) (dv_nil) rfl) rfl))) rfl hN (i := 2) rfl (.inl rfl) rfl (.inr rfl)) (db_cons (ds_own (de_op2 od_add (de_var (i := 2) rfl (.inl rfl) rfl rfl) (de_lst (dv_cons (de_op2 od_mul (de_str) (de_int)) (dv_cons (de_op2 od_mul (de_str) (de_int)) (dv_cons (de_op2 od_add (de_str) (de_op2 od_mul (de_str) (de_int))) (dv_cons (de_op2 od_add (de_str) (de_op2 od_mul (de_str) (de_int))) (dv_cons (de_str) (dv_nil) rfl) rfl) rfl) rfl) rfl))) rfl hN (i := 2) rfl (.inl rfl) rfl (.inr rfl)) (db_cons (ds_own (de_op2 od_add (de_var (i := 2) rfl (.inl rfl) rfl rfl) (de_lst (dv_cons (de_str) (dv_cons (de_str) (dv_cons (de_str) (dv_nil) rfl) rfl) rfl))) rfl hN (i := 2) rfl (.inl rfl) rfl (.inr rfl)) (db_cons (ds_own (de_op2 od_add (de_var (i := 2) rfl (.inl rfl) rfl rfl) (de_lst (dv_cons (de_str) (dv_cons (de_str) (dv_cons (de_str) (dv_cons (de_str) (dv_cons (de_str) (dv_cons (de_str) (dv_cons (de_str) (dv_nil) rfl) rfl) rfl) rfl) rfl) rfl) rfl))) rfl hN (i := 2) rfl (.inl rfl) rfl (.inr rfl)) (db_cons (ds_own (de_op2 od_add (de_var (i := 2) rfl (.inl rfl) rfl rfl) (de_lst (dv_cons (de_str) (dv_cons (de_str) (dv_cons (de_str) (dv_cons (de_str) (dv_cons (de_str) (dv_cons (de_str) (dv_nil) rfl) rfl) rfl) rfl) rfl) rfl))) rfl hN (i := 2) rfl (.inl rfl) rfl (.inr rfl)) (db_cons (ds_own (de_op2 od_add (de_var (i := 2) rfl (.inl rfl) rfl rfl) (de_lst (dv_cons (de_str) (dv_cons (de_str) (dv_cons (de_str) (dv_nil) rfl) rfl) rfl))) rfl hN (i := 2) rfl (.inl rfl) rfl (.inr rfl)) (db_cons (ds_own (de_op2 od_add (de_var (i := 2) rfl (.inl rfl) rfl rfl) (de_lst (dv_cons (de_op2 od_add (de_op2 od_add (de_str) (de_op2 od_mul (de_str) (de_int))) (de_str)) (dv_cons (de_op2 od_add (de_op2 od_add (de_str) (de_op2 od_mul (de_str) (de_int))) (de_str)) (dv_cons (de_op2 od_add (de_op2 od_add (de_str) (de_op2 od_mul (de_str) (de_int))) (de_str)) (dv_nil) rfl) rfl) rfl))) rfl hN (i := 2) rfl (.inl rfl) rfl (.inr rfl)) (db_cons (ds_own (de_op2 od_add (de_var (i := 2) rfl (.inl rfl) rfl rfl) (de_lst (dv_cons (de_op2 od_add (de_op2 od_add (de_str) (de_op2 od_mul (de_str) (de_int))) (de_str)) (dv_cons (de_op2 od_add (de_op2 od_add (de_str) (de_op2 od_mul (de_str) (de_int))) (de_str)) (dv_cons (de_str) (dv_cons (de_str) (dv_nil) rfl) rfl) rfl) rfl))) rfl hN (i := 2) rfl (.inl rfl) rfl (.inr rfl)) (db_cons (ds_own (de_op2 od_add (de_var (i := 2) rfl (.inl rfl) rfl rfl) (de_lst (dv_cons (de_str) (dv_cons (de_str) (dv_nil) rfl) rfl))) rfl hN (i := 2) rfl (.inl rfl) rfl (.inr rfl)) (db_cons (ds_own (de_op2 od_add (de_var (i := 2) rfl (.inl rfl) rfl rfl) (de_lst (dv_cons (de_op2 od_add (de_op2 od_add (de_op2 od_mul (de_str) (de_int)) (de_str)) (de_op2 od_mul (de_str) (de_int))) (dv_cons (de_op2 od_add (de_op2 od_mul (de_str) (de_int)) (de_str)) (dv_nil) rfl) rfl))) rfl hN (i := 2) rfl (.inl rfl) rfl (.inr rfl)) (db_cons (ds_set (de_op2 od_add (de_int) (de_fn h__law_draw hr (by omega) (takes_of rfl rfl rfl rfl) (by rfl) (dr_cons (de_var (i := 0) rfl (.inl rfl) rfl rfl) (dr_cons (de_int) (dr_nil) rfl) rfl))) hN (i := 3) rfl (.inl rfl) rfl (.inr rfl)) (db_cons (ds_for (ws := [4]) (passes_of rfl) rfl (di_seq (de_tup (dv_cons (de_int) (dv_cons (de_int) (dv_nil) rfl) rfl))) (dg_var (i := 4) hN rfl (.inl rfl) (.inr rfl) (by simp)) (db_cons (ds_expr (de_bm PySem.F.plainAttrs_list PySem.F.slot_list_append PySem.F.type_list_append rcv_lst bm_append (de_var (i := 2) rfl (.inl rfl) rfl rfl) (dv_cons (de_op2 od_add (de_op2 od_add (de_op2 od_add (de_op2 od_mul (de_str) (de_var (i := 3) rfl (.inl rfl) rfl rfl)) (de_op2 od_mul (de_str) (de_op2 od_sub (de_var (i := 4) rfl (.inl rfl) rfl rfl) (de_var (i := 3) rfl (.inl rfl) rfl rfl)))) (de_str)) (de_op2 od_mul (de_str) (de_op2 od_sub (de_var (i := 4) rfl (.inl rfl) rfl rfl) (de_var (i := 3) rfl (.inl rfl) rfl rfl)))) (dv_nil) rfl)) rfl) (db_nil)) (fun _ => rfl)) (db_cons (ds_own (de_op2 od_add (de_var (i := 2) rfl (.inl rfl) rfl rfl) (de_lst (dv_cons (de_op2 od_add (de_var (i := 1) rfl (.inl rfl) rfl rfl) (de_str)) (dv_cons (de_op2 od_add (de_str) (de_var (i := 1) rfl (.inl rfl) rfl rfl)) (dv_cons (de_op2 od_add (de_var (i := 1) rfl (.inl rfl) rfl rfl) (de_var (i := 1) rfl (.inl rfl) rfl rfl)) (dv_nil) rfl) rfl) rfl))) rfl hN (i := 2) rfl (.inl rfl) rfl (.inr rfl)) (db_cons (ds_own (de_op2 od_add (de_var (i := 2) rfl (.inl rfl) rfl rfl) (de_lst (dv_cons (de_op2 od_add (de_op2 od_add (de_str) (de_var (i := 1) rfl (.inl rfl) rfl rfl)) (de_str)) (dv_cons (de_op2 od_add (de_str) (de_var (i := 1) rfl (.inl rfl) rfl rfl)) (dv_cons (de_op2 od_add (de_str) (de_var (i := 1) rfl (.inl rfl) rfl rfl)) (dv_nil) rfl) rfl) rfl))) rfl hN (i := 2) rfl (.inl rfl) rfl (.inr rfl)) (db_cons (ds_ret (de_ix id_seq (de_var (i := 2) rfl (.inl rfl) rfl rfl) (de_fn h__law_draw hr (by omega) (takes_of rfl rfl rfl rfl) (by rfl) (dr_cons (de_var (i := 0) rfl (.inl rfl) rfl rfl) (dr_cons (de_bi bi_len (by rfl) (q0_free S) boot_len (dv_cons (de_var (i := 2) rfl (.inl rfl) rfl rfl) (dv_nil) rfl)) (dr_nil) rfl) rfl)) (fun _ _ => rfl))) (db_nil))))))))))))))))
theorem ok__law_bent {P : Program} {w : World} {K : PySem.W.Frag} {mg : Str → Option Value} {base : Heap} (S : Sy K mg) : DefOk P w K mg base d__law_bent "_law_bent" ["pool", "wording"] m__law_bent 3 := by
  obtain ⟨fd, F⟩ := S.t.def_ 25 (d := d__law_bent) rfl
  refine ck_fn S.s (S.e 26 _ rfl) F.kp (?_) (F.bindsN fun _ _ _ _ _ _ us hl => match us, hl with | [_, _], _ => rfl) F
  exact fnDn (k := 2) 1 [(7, 0)] b__law_bent F sc__law_bent rfl fun cdv A outer s H E b hr => by
    have hN := sc__law_bent.nd
    delta b__law_bent
    have h__law_draw := ok__law_draw (P := P) (w := w) (base := base) S
    have h__law_odd := ok__law_odd (P := P) (w := w) (base := base) S
    exact db_cons (ds_par2 rfl hN (i := 2) (j := 3) rfl rfl (by decide) rfl rfl rfl (dr_cons (de_fn h__law_draw hr (by omega) (takes_of rfl rfl rfl rfl) (by rfl) (dr_cons (de_var (i := 0) rfl (.inl rfl) rfl rfl) (dr_cons (de_op2 od_add (de_bi bi_len (by rfl) (q0_free S) boot_len (dv_cons (de_var (i := 1) rfl (.inl rfl) rfl rfl) (dv_nil) rfl)) (de_int)) (dr_nil) rfl) rfl)) (dr_cons (de_fn h__law_draw hr (by omega) (takes_of rfl rfl rfl rfl) (by rfl) (dr_cons (de_var (i := 0) rfl (.inl rfl) rfl rfl) (dr_cons (de_int) (dr_nil) rfl) rfl)) (dr_nil) rfl) rfl) rfl) (db_cons (ds_set (de_str) hN (i := 4) rfl (.inl rfl) rfl (.inr rfl)) (db_cons (ds_set (de_ix id_seq (de_lst (dv_cons (de_str) (dv_cons (de_op2 od_add (de_op2 od_add (de_var (i := 4) rfl (.inl rfl) rfl rfl) (de_str)) (de_str)) (dv_nil) rfl) rfl)) (de_fn h__law_draw hr (by omega) (takes_of rfl rfl rfl rfl) (by rfl) (dr_cons (de_var (i := 0) rfl (.inl rfl) rfl rfl) (dr_cons (de_int) (dr_nil) rfl) rfl)) (fun _ _ => rfl)) hN (i := 5) rfl (.inl rfl) rfl (.inr rfl)) (db_cons (ds_set (de_ix id_seq (de_var (i := 5) rfl (.inl rfl) rfl rfl) (de_fn h__law_draw hr (by omega) (takes_of rfl rfl rfl rfl) (by rfl) (dr_cons (de_var (i := 0) rfl (.inl rfl) rfl rfl) (dr_cons (de_bi bi_len (by rfl) (q0_free S) boot_len (dv_cons (de_var (i := 5) rfl (.inl rfl) rfl rfl) (dv_nil) rfl)) (dr_nil) rfl) rfl)) (fun _ _ => rfl)) hN (i := 6) rfl (.inl rfl) rfl (.inr rfl)) (db_cons (ds_if (dt_cmp (od_eq hr.units) (de_var (i := 3) rfl (.inl rfl) rfl rfl) (de_int) rfl) (db_cons (ds_ret (de_op2 od_add (de_op2 od_add (de_slice (de_var (i := 1) rfl (.inl rfl) rfl rfl) do_none (do_some (de_var (i := 2) rfl (.inl rfl) rfl rfl))) (de_var (i := 6) rfl (.inl rfl) rfl rfl)) (de_slice (de_var (i := 1) rfl (.inl rfl) rfl rfl) (do_some (de_var (i := 2) rfl (.inl rfl) rfl rfl)) do_none))) (db_nil)) (db_nil)) (db_cons (ds_if (dt_cmp (od_eq hr.units) (de_var (i := 3) rfl (.inl rfl) rfl rfl) (de_int) rfl) (db_cons (ds_ret (de_op2 od_add (de_slice (de_var (i := 1) rfl (.inl rfl) rfl rfl) do_none (do_some (de_var (i := 2) rfl (.inl rfl) rfl rfl))) (de_slice (de_var (i := 1) rfl (.inl rfl) rfl rfl) (do_some (de_op2 od_add (de_var (i := 2) rfl (.inl rfl) rfl rfl) (de_int))) do_none))) (db_nil)) (db_nil)) (db_cons (ds_if (dt_cmp (od_eq hr.units) (de_var (i := 3) rfl (.inl rfl) rfl rfl) (de_int) rfl) (db_cons (ds_ret (de_op2 od_add (de_op2 od_add (de_slice (de_var (i := 1) rfl (.inl rfl) rfl rfl) do_none (do_some (de_var (i := 2) rfl (.inl rfl) rfl rfl))) (de_var (i := 6) rfl (.inl rfl) rfl rfl)) (de_slice (de_var (i := 1) rfl (.inl rfl) rfl rfl) (do_some (de_op2 od_add (de_var (i := 2) rfl (.inl rfl) rfl rfl) (de_int))) do_none))) (db_nil)) (db_nil)) (db_cons (ds_if (dt_cmp (od_eq hr.units) (de_var (i := 3) rfl (.inl rfl) rfl rfl) (de_int) rfl) (db_cons (ds_ret (de_fn h__law_odd hr (by omega) (takes_of rfl rfl rfl rfl) (by rfl) (dr_cons (de_var (i := 0) rfl (.inl rfl) rfl rfl) (dr_cons (de_var (i := 1) rfl (.inl rfl) rfl rfl) (dr_nil) rfl) rfl))) (db_nil)) (db_nil)) (db_cons (ds_if (dt_cmp (od_eq hr.units) (de_var (i := 3) rfl (.inl rfl) rfl rfl) (de_int) rfl) (db_cons (ds_own (de_bm PySem.F.plainAttrs_str PySem.F.slot_str_split PySem.F.type_str_split rcv_str bm_split (de_var (i := 1) rfl (.inl rfl) rfl rfl) (dv_cons (de_str) (dv_nil) rfl)) rfl hN (i := 7) rfl (.inl rfl) rfl (.inr rfl)) (db_cons (ds_par2 rfl hN (i := 8) (j := 9) rfl rfl (by decide) rfl rfl rfl (dr_cons (de_fn h__law_draw hr (by omega) (takes_of rfl rfl rfl rfl) (by rfl) (dr_cons (de_var (i := 0) rfl (.inl rfl) rfl rfl) (dr_cons (de_bi bi_len (by rfl) (q0_free S) boot_len (dv_cons (de_var (i := 7) rfl (.inl rfl) rfl rfl) (dv_nil) rfl)) (dr_nil) rfl) rfl)) (dr_cons (de_fn h__law_draw hr (by omega) (takes_of rfl rfl rfl rfl) (by rfl) (dr_cons (de_var (i := 0) rfl (.inl rfl) rfl rfl) (dr_cons (de_bi bi_len (by rfl) (q0_free S) boot_len (dv_cons (de_var (i := 7) rfl (.inl rfl) rfl rfl) (dv_nil) rfl)) (dr_nil) rfl) rfl)) (dr_nil) rfl) rfl) rfl) (db_cons (ds_set (de_ix id_seq (de_var (i := 7) rfl (.inl rfl) rfl rfl) (de_var (i := 8) rfl (.inl rfl) rfl rfl) (fun _ _ => rfl)) hN (i := 10) rfl (.inl rfl) rfl (.inr rfl)) (db_cons (ds_store st_list (de_var (i := 7) rfl (.inl rfl) rfl rfl) (de_var (i := 8) rfl (.inl rfl) rfl rfl) (de_ix id_seq (de_var (i := 7) rfl (.inl rfl) rfl rfl) (de_var (i := 9) rfl (.inl rfl) rfl rfl) (fun _ _ => rfl))) (db_cons (ds_store st_list (de_var (i := 7) rfl (.inl rfl) rfl rfl) (de_var (i := 9) rfl (.inl rfl) rfl rfl) (de_var (i := 10) rfl (.inl rfl) rfl rfl)) (db_cons (ds_ret (de_bm PySem.F.plainAttrs_str PySem.F.slot_str_join PySem.F.type_str_join rcv_str bm_join (de_str) (dv_cons (de_move (de_var (i := 7) rfl (.inl rfl) rfl rfl)) (dv_nil) rfl))) (db_nil))))))) (db_nil)) (db_cons (ds_ret (de_var (i := 1) rfl (.inl rfl) rfl rfl)) (db_nil))))))))))
theorem ok_is_number {P : Program} {w : World} {K : PySem.W.Frag} {mg : Str → Option Value} {base : Heap} (S : Sy K mg) : DefOk P w K mg base d_is_number "is_number" ["text", "most"] m_is_number 1 := by
  obtain ⟨fd, F⟩ := S.t.def_ 26 (d := d_is_number) rfl
  refine ck_fn S.s (S.e 27 _ rfl) F.kp (?_) (F.bindsN fun _ _ _ _ _ _ us hl => match us, hl with | [_, _], _ => rfl) F
  exact fnDn (k := 0) 0 [] b_is_number F sc_is_number rfl fun cdv A outer s H E b hr => by
    have hN := sc_is_number.nd
    delta b_is_number
    exact db_cons (ds_set (de_if (dt_cmp (od_eq hr.units) (de_slice (de_var (i := 0) rfl (.inl rfl) rfl rfl) do_none (do_some (de_int))) (de_str) rfl) (de_slice (de_var (i := 0) rfl (.inl rfl) rfl rfl) (do_some (de_int)) do_none) (de_var (i := 0) rfl (.inl rfl) rfl rfl)) hN (i := 2) rfl (.inl rfl) rfl (.inr rfl)) (db_cons (ds_if ((dw_or (dt_not (dt_chain od_le od_le (de_int) (de_bi bi_len (by rfl) (q0_free S) boot_len (dv_cons (de_var (i := 2) rfl (.inl rfl) rfl rfl) (dv_nil) rfl)) (de_var (i := 1) rfl (.inl rfl) rfl rfl))) (dw_or1 (dt_not (dt_val (de_bi (bi_all rfl) (by rfl) (q10_free S) boot_all (dv_cons (de_lc (own := [("sign", 3)]) rfl hN (di_seq (de_var (i := 2) rfl (.inl rfl) rfl rfl)) (blkOk_by (N := ["text", "most", "digits", "sign"]) (sc := defScope (top 32)) (own := [("sign", 3)]) (by decide +kernel)) (fun _ _ _ _ _ => dg_var (i := 3) hN rfl (.inl rfl) (.inr rfl) (by simp)) (fun _ _ _ _ _ => dts_nil) (fun _ _ _ _ _ => de_cmp (od_alt od_inSeq od_inStr) (de_var (i := 3) rfl (.inl rfl) rfl rfl) (de_gstr (by rfl) (q16_str S)) rfl)) (dv_nil) rfl)))))).dt) (db_cons (ds_ret (de_bl)) (db_nil)) (db_nil)) (db_cons (ds_ret (de_or (de_cmp (od_ne hr.units) (de_ix id_seq (de_var (i := 2) rfl (.inl rfl) rfl rfl) (de_int) (fun _ _ => rfl)) (de_str) rfl) (de_one (de_cmp (od_eq hr.units) (de_var (i := 0) rfl (.inl rfl) rfl rfl) (de_str) rfl)))) (db_nil)))
theorem ok_split_pair {P : Program} {w : World} {K : PySem.W.Frag} {mg : Str → Option Value} {base : Heap} (S : Sy K mg) : DefOk P w K mg base d_split_pair "split_pair" ["text"] m_split_pair 1 := by
  obtain ⟨fd, F⟩ := S.t.def_ 27 (d := d_split_pair) rfl
  refine ck_fn S.s (S.e 28 _ rfl) F.kp (?_) (F.bindsN fun _ _ _ _ _ _ us hl => match us, hl with | [_], _ => rfl) F
  exact fnDn (k := 0) 0 [] b_split_pair F sc_split_pair rfl fun cdv A outer s H E b hr => by
    have hN := sc_split_pair.nd
    delta b_split_pair
    exact db_cons (ds_set (de_bm PySem.F.plainAttrs_str PySem.F.slot_str_split PySem.F.type_str_split rcv_str bm_split (de_slice (de_var (i := 0) rfl (.inl rfl) rfl rfl) (do_some (de_int)) (do_some (de_neg (de_int)))) (dv_cons (de_str) (dv_nil) rfl)) hN (i := 1) rfl (.inl rfl) rfl (.inr rfl)) (db_cons (ds_set (de_int) hN (i := 2) rfl (.inl rfl) rfl (.inr rfl)) (db_cons (ds_for (ws := [3, 4]) (passes_of rfl) rfl (di_enum (by rfl) (q17_free S) (dv_cons (de_var (i := 1) rfl (.inl rfl) rfl rfl) (dv_nil) rfl)) (dg_tup rfl (dgs_cons (dg_var (i := 3) hN rfl (.inl rfl) (.inr rfl) (by simp)) (dgs_cons (dg_var (i := 4) hN rfl (.inl rfl) (.inr rfl) (by simp)) (dgs_nil) rfl) rfl) rfl rfl) (db_cons (ds_if ((dw_and (dt_cmp (od_eq hr.units) (de_var (i := 2) rfl (.inl rfl) rfl rfl) (de_int) rfl) (dw_and1 (dt_chain od_lt od_lt (de_int) (de_var (i := 3) rfl (.inl rfl) rfl rfl) (de_op2 od_sub (de_bi bi_len (by rfl) (q0_free S) boot_len (dv_cons (de_var (i := 1) rfl (.inl rfl) rfl rfl) (dv_nil) rfl)) (de_int))))).dt) (db_cons (ds_ret (de_tup (dv_cons (de_bm PySem.F.plainAttrs_str PySem.F.slot_str_join PySem.F.type_str_join rcv_str bm_join (de_str) (dv_cons (de_slice (de_var (i := 1) rfl (.inl rfl) rfl rfl) do_none (do_some (de_var (i := 3) rfl (.inl rfl) rfl rfl))) (dv_nil) rfl)) (dv_cons (de_var (i := 4) rfl (.inl rfl) rfl rfl) (dv_cons (de_bm PySem.F.plainAttrs_str PySem.F.slot_str_join PySem.F.type_str_join rcv_str bm_join (de_str) (dv_cons (de_slice (de_var (i := 1) rfl (.inl rfl) rfl rfl) (do_some (de_op2 od_add (de_var (i := 3) rfl (.inl rfl) rfl rfl) (de_int))) do_none) (dv_nil) rfl)) (dv_nil) rfl) rfl) rfl))) (db_nil)) (db_nil)) (db_cons (ds_set (de_op2 od_sub (de_op2 od_add (de_var (i := 2) rfl (.inl rfl) rfl rfl) (de_bm PySem.F.plainAttrs_str PySem.F.slot_str_count PySem.F.type_str_count rcv_str bm_count (de_var (i := 4) rfl (.inl rfl) rfl rfl) (dv_cons (de_str) (dv_nil) rfl))) (de_bm PySem.F.plainAttrs_str PySem.F.slot_str_count PySem.F.type_str_count rcv_str bm_count (de_var (i := 4) rfl (.inl rfl) rfl rfl) (dv_cons (de_str) (dv_nil) rfl))) hN (i := 2) rfl (.inl rfl) rfl (.inr rfl)) (db_nil))) (fun _ => rfl)) (db_cons (ds_ret (de_non)) (db_nil))))
theorem okr_value_in {P : Program} {w : World} {K : PySem.W.Frag} {mg : Str → Option Value} {base : Heap} (S : Sy K mg) : ∀ n : Nat, DefOk P w K mg base d_value_in "value_in" ["text"] (m_value_in n) (4 + n * 1)
  | 0 => by
    obtain ⟨fd0, F0⟩ := S.t.def_ 28 (d := d_value_in) rfl
    exact ck_fn S.s (S.e 29 _ rfl) F0.kp (fnBad) (F0.bindsN fun _ _ _ _ _ _ us hl => match us, hl with | [_], _ => rfl) F0
  | n + 1 => by
    obtain ⟨fd0, F0⟩ := S.t.def_ 28 (d := d_value_in) rfl
    have h_value_in := okr_value_in (P := P) (w := w) (base := base) S n
    refine ck_fn S.s (S.e 29 _ rfl) F0.kp (?_) (F0.bindsN fun _ _ _ _ _ _ us hl => match us, hl with | [_], _ => rfl) F0
    · refine fnMono (fnDn (k := 4 + n * 1 + 0) 0 [] (b_value_in (m_value_in n)) F0 sc_value_in rfl fun cdv A outer s H E b hr => ?_) (by omega)
      have hN := sc_value_in.nd
      delta b_value_in
      have h_passed := ok_passed (P := P) (w := w) (base := base) S
      have h_is_name := ok_is_name (P := P) (w := w) (base := base) S
      have h_cell := ok_cell (P := P) (w := w) (base := base) S
      have h_is_number := ok_is_number (P := P) (w := w) (base := base) S
      have h_number := ok_number (P := P) (w := w) (base := base) S
      have h_Value___invert__ := ok_Value___invert__ (P := P) (w := w) (base := base) S
      have h_split_pair := ok_split_pair (P := P) (w := w) (base := base) S
      have h_Value___init__ := ok_Value___init__ (P := P) (w := w) (base := base) S
      exact db_cons (ds_if (dt_cmp (od_eq hr.units) (de_var (i := 0) rfl (.inl rfl) rfl rfl) (de_str) rfl) (db_cons (ds_ret (de_fn0 h_passed hr (by omega) (takes_of rfl rfl rfl rfl) (by rfl))) (db_nil)) (db_nil)) (db_cons (ds_if (dt_val (de_fn h_is_name hr (by omega) (takes_of rfl rfl rfl rfl) (by rfl) (dr_cons (de_var (i := 0) rfl (.inl rfl) rfl rfl) (dr_nil) rfl))) (db_cons (ds_ret (de_fn h_cell hr (by omega) (takes_of rfl rfl rfl rfl) (by rfl) (dr_cons (de_var (i := 0) rfl (.inl rfl) rfl rfl) (dr_nil) rfl))) (db_nil)) (db_nil)) (db_cons (ds_if (dt_val (de_fn h_is_number hr (by omega) (takes_of rfl rfl rfl rfl) (by rfl) (dr_cons (de_var (i := 0) rfl (.inl rfl) rfl rfl) (dr_cons (de_gint (by rfl) (q18_int S)) (dr_nil) rfl) rfl))) (db_cons (ds_ret (de_fn h_number hr (by omega) (takes_of rfl rfl rfl rfl) (by rfl) (dr_cons (de_bty bi_int (by rfl) (q1_free S) boot_int (dv_cons (de_var (i := 0) rfl (.inl rfl) rfl rfl) (dv_nil) rfl)) (dr_nil) rfl))) (db_nil)) (db_nil)) (db_cons (ds_if (dt_cmp (od_eq hr.units) (de_slice (de_var (i := 0) rfl (.inl rfl) rfl rfl) do_none (do_some (de_int))) (de_str) rfl) (db_cons (ds_set (de_fn h_value_in hr (by omega) (takes_of rfl rfl rfl rfl) (by rfl) (dr_cons (de_slice (de_var (i := 0) rfl (.inl rfl) rfl rfl) (do_some (de_int)) do_none) (dr_nil) rfl)) hN (i := 1) rfl (.inl rfl) rfl (.inr rfl)) (db_cons (ds_ret (de_if (dt_cmp od_isN (de_var (i := 1) rfl (.inl rfl) rfl rfl) (de_non) rfl) (de_non) (de_invf h_Value___invert__ hr (by omega) (takes_of rfl rfl rfl rfl) rfl (de_var (i := 1) rfl (.inl rfl) rfl rfl)))) (db_nil))) (db_nil)) (db_cons (ds_if ((dw_or (dt_cmp (od_ne hr.units) (de_slice (de_var (i := 0) rfl (.inl rfl) rfl rfl) do_none (do_some (de_int))) (de_str) rfl) (dw_or1 (dt_cmp (od_ne hr.units) (de_slice (de_var (i := 0) rfl (.inl rfl) rfl rfl) (do_some (de_neg (de_int))) do_none) (de_str) rfl))).dt) (db_cons (ds_ret (de_non)) (db_nil)) (db_nil)) (db_cons (ds_set (de_fn h_split_pair hr (by omega) (takes_of rfl rfl rfl rfl) (by rfl) (dr_cons (de_var (i := 0) rfl (.inl rfl) rfl rfl) (dr_nil) rfl)) hN (i := 2) rfl (.inl rfl) rfl (.inr rfl)) (db_cons (ds_if ((dw_or (dt_cmp od_isN (de_var (i := 2) rfl (.inl rfl) rfl rfl) (de_non) rfl) (dw_or1 (dt_cmp (od_alt od_notInSeq od_notInStr) (de_ix id_seq (de_var (i := 2) rfl (.inl rfl) rfl rfl) (de_int) (fun _ _ => rfl)) (de_gref (by rfl) (q19_glo S) (q20_tups S)) rfl))).dt) (db_cons (ds_ret (de_non)) (db_nil)) (db_nil)) (db_cons (ds_par2 rfl hN (i := 3) (j := 4) rfl rfl (by decide) rfl rfl rfl (dr_cons (de_fn h_value_in hr (by omega) (takes_of rfl rfl rfl rfl) (by rfl) (dr_cons (de_ix id_seq (de_var (i := 2) rfl (.inl rfl) rfl rfl) (de_int) (fun _ _ => rfl)) (dr_nil) rfl)) (dr_cons (de_fn h_value_in hr (by omega) (takes_of rfl rfl rfl rfl) (by rfl) (dr_cons (de_ix id_seq (de_var (i := 2) rfl (.inl rfl) rfl rfl) (de_int) (fun _ _ => rfl)) (dr_nil) rfl)) (dr_nil) rfl) rfl) rfl) (db_cons (ds_if ((dw_or (dt_cmp od_isN (de_var (i := 3) rfl (.inl rfl) rfl rfl) (de_non) rfl) (dw_or1 (dt_cmp od_isN (de_var (i := 4) rfl (.inl rfl) rfl rfl) (de_non) rfl))).dt) (db_cons (ds_ret (de_non)) (db_nil)) (db_nil)) (db_cons (ds_if ((dw_and (dt_cmp (od_alt od_inSeq od_inStr) (de_ix id_seq (de_var (i := 2) rfl (.inl rfl) rfl rfl) (de_int) (fun _ _ => rfl)) (de_tup (dv_cons (de_str) (dv_cons (de_str) (dv_nil) rfl) rfl)) rfl) (dw_and1 ((dw_or (dt_cmp (od_ne hr.units) (de_at (de_var (i := 4) rfl (.inl rfl) rfl rfl) (rd_fld (q4_fld S))) (de_str) rfl) (dw_or1 (dt_cmp od_lt (de_at (de_var (i := 4) rfl (.inl rfl) rfl rfl) (rd_fld (q5_fld S))) (de_int) rfl))).dt))).dt) (db_cons (ds_ret (de_non)) (db_nil)) (db_nil)) (db_cons (ds_ret (de_mk h_Value___init__ hr (by omega) (takes_of rfl rfl rfl rfl) (by rfl) (dr_cons (de_ix id_seq (de_var (i := 2) rfl (.inl rfl) rfl rfl) (de_int) (fun _ _ => rfl)) (dr_cons (de_var (i := 3) rfl (.inl rfl) rfl rfl) (dr_cons (de_var (i := 4) rfl (.inl rfl) rfl rfl) (dr_nil) rfl) rfl) rfl))) (db_nil)))))))))))

theorem ok_value_in {P : Program} {w : World} {K : PySem.W.Frag} {mg : Str → Option Value} {base : Heap} (S : Sy K mg) (n : Nat) : DefOk P w K mg base d_value_in "value_in" ["text"] (m_value_in n) (4 + n * 1) := okr_value_in S n
theorem ok_value_of_text {P : Program} {w : World} {K : PySem.W.Frag} {mg : Str → Option Value} {base : Heap} (S : Sy K mg) : DefOk P w K mg base d_value_of_text "value_of_text" ["text"] m_value_of_text 65 := by
  obtain ⟨fd, F⟩ := S.t.def_ 29 (d := d_value_of_text) rfl
  refine ck_fn S.s (S.e 30 _ rfl) F.kp (?_) (F.bindsN fun _ _ _ _ _ _ us hl => match us, hl with | [_], _ => rfl) F
  exact fnDn (k := 64) 0 [] b_value_of_text F sc_value_of_text rfl fun cdv A outer s H E b hr => by
    have hN := sc_value_of_text.nd
    delta b_value_of_text
    have h_value_in := ok_value_in (P := P) (w := w) (base := base) S 60
    have h_show_value := ok_show_value (P := P) (w := w) (base := base) S 60
    exact db_cons (ds_if (dt_cmp od_gt (de_op2 od_add (de_bm PySem.F.plainAttrs_str PySem.F.slot_str_count PySem.F.type_str_count rcv_str bm_count (de_var (i := 0) rfl (.inl rfl) rfl rfl) (dv_cons (de_str) (dv_nil) rfl)) (de_bm PySem.F.plainAttrs_str PySem.F.slot_str_count PySem.F.type_str_count rcv_str bm_count (de_var (i := 0) rfl (.inl rfl) rfl rfl) (dv_cons (de_str) (dv_nil) rfl))) (de_gint (by rfl) (q21_int S)) rfl) (db_cons (ds_ret (de_non)) (db_nil)) (db_nil)) (db_cons (ds_set (de_fn h_value_in hr (by omega) (takes_of rfl rfl rfl rfl) (by rfl) (dr_cons (de_var (i := 0) rfl (.inl rfl) rfl rfl) (dr_nil) rfl)) hN (i := 1) rfl (.inl rfl) rfl (.inr rfl)) (db_cons (ds_ret (de_if ((dw_or (dt_cmp od_isN (de_var (i := 1) rfl (.inl rfl) rfl rfl) (de_non) rfl) (dw_or1 (dt_cmp (od_ne hr.units) (de_fn h_show_value hr (by omega) (takes_of rfl rfl rfl rfl) (by rfl) (dr_cons (de_var (i := 1) rfl (.inl rfl) rfl rfl) (dr_nil) rfl)) (de_var (i := 0) rfl (.inl rfl) rfl rfl) rfl))).dt) (de_non) (de_var (i := 1) rfl (.inl rfl) rfl rfl))) (db_nil)))
theorem ok_read_value {P : Program} {w : World} {K : PySem.W.Frag} {mg : Str → Option Value} {base : Heap} (S : Sy K mg) : DefOk P w K mg base d_read_value "read_value" ["text"] m_read_value 66 := by
  obtain ⟨fd, F⟩ := S.t.def_ 30 (d := d_read_value) rfl
  refine ck_fn S.s (S.e 31 _ rfl) F.kp (?_) (F.bindsN fun _ _ _ _ _ _ us hl => match us, hl with | [_], _ => rfl) F
  exact fnDn (k := 65) 0 [] b_read_value F sc_read_value rfl fun cdv A outer s H E b hr => by
    have hN := sc_read_value.nd
    delta b_read_value
    have h_value_of_text := ok_value_of_text (P := P) (w := w) (base := base) S
    exact db_cons (ds_set (de_fn h_value_of_text hr (by omega) (takes_of rfl rfl rfl rfl) (by rfl) (dr_cons (de_var (i := 0) rfl (.inl rfl) rfl rfl) (dr_nil) rfl)) hN (i := 1) rfl (.inl rfl) rfl (.inr rfl)) (db_cons (ds_if (dt_cmp od_isN (de_var (i := 1) rfl (.inl rfl) rfl rfl) (de_non) rfl) (db_cons (ds_rais (q22_xok S) hr (by omega) rfl (takes_of rfl rfl rfl rfl) (by rfl) (de_var (i := 0) rfl (.inl rfl) rfl rfl)) (db_nil)) (db_nil)) (db_cons (ds_ret (de_var (i := 1) rfl (.inl rfl) rfl rfl)) (db_nil)))
theorem ok__law_caught {P : Program} {w : World} {K : PySem.W.Frag} {mg : Str → Option Value} {base : Heap} (S : Sy K mg) : DefOk P w K mg base d__law_caught "_law_caught" ["wording"] m__law_caught 67 := by
  obtain ⟨fd, F⟩ := S.t.def_ 31 (d := d__law_caught) rfl
  refine ck_fn S.s (S.e 32 _ rfl) F.kp (?_) (F.bindsN fun _ _ _ _ _ _ us hl => match us, hl with | [_], _ => rfl) F
  exact fnDn (k := 66) 0 [] b__law_caught F sc__law_caught rfl fun cdv A outer s H E b hr => by
    have hN := sc__law_caught.nd
    delta b__law_caught
    have h_show_value := ok_show_value (P := P) (w := w) (base := base) S 60
    have h_read_value := ok_read_value (P := P) (w := w) (base := base) S
    exact db_cons (ds_set (de_lst (dv_nil)) hN (i := 1) rfl (.inl rfl) rfl (.inr rfl)) (db_cons (ds_try (i := 2) rfl rfl hN rfl rfl ⟨rfl, by decide, .inl (q29_glo S)⟩ (takes_of rfl rfl rfl rfl) rfl (q30_hit S) (fun W pn xe tk po => db_cons (ds_set (de_lst (dv_cons (de_fn h_show_value hr (by omega) tk (by rfl) (dr_cons (de_fn h_read_value hr (by omega) tk (by rfl) (dr_cons (de_var (i := 0) rfl (.inl rfl) rfl rfl) (dr_nil) rfl)) (dr_nil) rfl)) (dv_nil) rfl)) hN (i := 1) rfl (.inl rfl) rfl (.inr rfl)) (db_nil)) (fun a oe cls dx pn d g0 hz hd er => db_cons (ds_set (de_xis (i := 2) hz hd er (.tup (cs := [.ref (He.ga K "InvalidName"), .ref (He.ga K "InvalidDivisor")]) (pa_cons (pe_glob (v := .ref (He.ga K "InvalidName")) (by rfl) (q24_glo S) rfl) (pa_cons (pe_glob (v := .ref (He.ga K "InvalidDivisor")) (by rfl) (q23_glo S) rfl) pa_nil)) (.cons (.own _) (.cons (.own _) .nil)) (Nat.le_of_ble_eq_true rfl)) (q25_xis S) (by rfl) (.inl rfl) (by rfl) (q14_free S)) hN (i := 3) rfl (.inl rfl) rfl (.inr rfl)) (db_cons (ds_set (de_if ((dw_or (dt_val (de_var (i := 3) rfl (.inl rfl) rfl rfl)) (dw_or (dt_not (dt_val (de_xis (i := 2) hz hd er (.one (pe_glob (v := .ref (He.ga K "Unreadable")) (by rfl) (q26_glo S) rfl) (.own _)) (q27_xis S) (by rfl) (.inl rfl) (by rfl) (q14_free S)))) (dw_or1 (dt_cmp (od_ne hr.units) (de_xval (i := 2) hz hd er (q28_xval S) rfl (.inl rfl)) (de_var (i := 0) rfl (.inl rfl) rfl rfl) rfl)))).dt) (de_lst (dv_cons (de_str) (dv_nil) rfl)) (de_lst (dv_nil))) hN (i := 1) rfl (.inl rfl) rfl (.inr rfl)) (db_nil)))) (db_cons (ds_ret (de_var (i := 1) rfl (.inl rfl) rfl rfl)) (db_nil)))
theorem ok__law_run {P : Program} {w : World} {K : PySem.W.Frag} {mg : Str → Option Value} {base : Heap} (S : Sy K mg) : DefOk P w K mg base d__law_run "_law_run" ["wording", "at", "allowed"] m__law_run 1 := by
  obtain ⟨fd, F⟩ := S.t.def_ 32 (d := d__law_run) rfl
  refine ck_fn S.s (S.e 33 _ rfl) F.kp (?_) (F.bindsN fun _ _ _ _ _ _ us hl => match us, hl with | [_, _, _], _ => rfl) F
  exact fnDn (k := 0) 0 [] b__law_run F sc__law_run rfl fun cdv A outer s H E b hr => by
    have hN := sc__law_run.nd
    delta b__law_run
    exact db_cons (ds_set (de_var (i := 1) rfl (.inl rfl) rfl rfl) hN (i := 3) rfl (.inl rfl) rfl (.inr rfl)) (db_cons (ds_while 1000000 (passes_of rfl) ((dw_and (dt_cmp od_lt (de_var (i := 3) rfl (.inl rfl) rfl rfl) (de_bi bi_len (by rfl) (q0_free S) boot_len (dv_cons (de_var (i := 0) rfl (.inl rfl) rfl rfl) (dv_nil) rfl)) rfl) (dw_and1 (dt_cmp (od_alt od_inSeq od_inStr) (de_ix id_seq (de_var (i := 0) rfl (.inl rfl) rfl rfl) (de_var (i := 3) rfl (.inl rfl) rfl rfl) (fun _ _ => rfl)) (de_var (i := 2) rfl (.inl rfl) rfl rfl) rfl))).dt) (db_cons (ds_set (de_op2 od_add (de_var (i := 3) rfl (.inl rfl) rfl rfl) (de_int)) hN (i := 3) rfl (.inl rfl) rfl (.inr rfl)) (db_nil))) (db_cons (ds_ret (de_var (i := 3) rfl (.inl rfl) rfl rfl)) (db_nil)))
theorem ok__law_integer {P : Program} {w : World} {K : PySem.W.Frag} {mg : Str → Option Value} {base : Heap} (S : Sy K mg) : DefOk P w K mg base d__law_integer "_law_integer" ["wording"] m__law_integer 1 := by
  obtain ⟨fd, F⟩ := S.t.def_ 33 (d := d__law_integer) rfl
  refine ck_fn S.s (S.e 34 _ rfl) F.kp (?_) (F.bindsN fun _ _ _ _ _ _ us hl => match us, hl with | [_], _ => rfl) F
  exact fnDn (k := 0) 0 [] b__law_integer F sc__law_integer rfl fun cdv A outer s H E b hr => by
    have hN := sc__law_integer.nd
    delta b__law_integer
    exact db_cons (ds_set (de_if (dt_cmp (od_eq hr.units) (de_slice (de_var (i := 0) rfl (.inl rfl) rfl rfl) do_none (do_some (de_int))) (de_str) rfl) (de_slice (de_var (i := 0) rfl (.inl rfl) rfl rfl) (do_some (de_int)) do_none) (de_var (i := 0) rfl (.inl rfl) rfl rfl)) hN (i := 1) rfl (.inl rfl) rfl (.inr rfl)) (db_cons (ds_if ((dw_or (dt_cmp (od_eq hr.units) (de_var (i := 1) rfl (.inl rfl) rfl rfl) (de_str) rfl) (dw_or (dt_cmp od_gt (de_bi bi_len (by rfl) (q0_free S) boot_len (dv_cons (de_var (i := 1) rfl (.inl rfl) rfl rfl) (dv_nil) rfl)) (de_int) rfl) (dw_or1 (dt_cmp (od_ne hr.units) (de_lc (own := [("sign", 2)]) rfl hN (di_seq (de_var (i := 1) rfl (.inl rfl) rfl rfl)) (blkOk_by (N := ["wording", "digits", "sign"]) (sc := defScope (top 43)) (own := [("sign", 2)]) (by decide +kernel)) (fun _ _ _ _ _ => dg_var (i := 2) hN rfl (.inl rfl) (.inr rfl) (by simp)) (fun _ _ _ _ _ => dts_one (dt_cmp (od_alt od_notInSeq od_notInStr) (de_var (i := 2) rfl (.inl rfl) rfl rfl) (de_str) rfl)) (fun _ _ _ _ _ => de_var (i := 2) rfl (.inl rfl) rfl rfl)) (de_lst (dv_nil)) rfl)))).dt) (db_cons (ds_ret (de_bl)) (db_nil)) (db_nil)) (db_cons (ds_ret (de_or (de_cmp (od_ne hr.units) (de_ix id_seq (de_var (i := 1) rfl (.inl rfl) rfl rfl) (de_int) (fun _ _ => rfl)) (de_str) rfl) (de_one (de_cmp (od_eq hr.units) (de_var (i := 0) rfl (.inl rfl) rfl rfl) (de_str) rfl)))) (db_nil)))
theorem okr__law_ends {P : Program} {w : World} {K : PySem.W.Frag} {mg : Str → Option Value} {base : Heap} (S : Sy K mg) : ∀ n : Nat, DefOk P w K mg base d__law_ends "_law_ends" ["wording", "at"] (m__law_ends n) (1 + n * 1)
  | 0 => by
    obtain ⟨fd0, F0⟩ := S.t.def_ 34 (d := d__law_ends) rfl
    exact ck_fn S.s (S.e 35 _ rfl) F0.kp (fnBad) (F0.bindsN fun _ _ _ _ _ _ us hl => match us, hl with | [_, _], _ => rfl) F0
  | n + 1 => by
    obtain ⟨fd0, F0⟩ := S.t.def_ 34 (d := d__law_ends) rfl
    have h__law_ends := okr__law_ends (P := P) (w := w) (base := base) S n
    refine ck_fn S.s (S.e 35 _ rfl) F0.kp (?_) (F0.bindsN fun _ _ _ _ _ _ us hl => match us, hl with | [_, _], _ => rfl) F0
    · refine fnMono (fnDn (k := 1 + n * 1 + 0) 0 [] (b__law_ends (m__law_ends n)) F0 sc__law_ends rfl fun cdv A outer s H E b hr => ?_) (by omega)
      have hN := sc__law_ends.nd
      delta b__law_ends
      have h__law_run := ok__law_run (P := P) (w := w) (base := base) S
      have h__law_integer := ok__law_integer (P := P) (w := w) (base := base) S
      exact db_cons (ds_set (de_slice (de_var (i := 0) rfl (.inl rfl) rfl rfl) (do_some (de_var (i := 1) rfl (.inl rfl) rfl rfl)) (do_some (de_op2 od_add (de_var (i := 1) rfl (.inl rfl) rfl rfl) (de_int)))) hN (i := 2) rfl (.inl rfl) rfl (.inr rfl)) (db_cons (ds_if (dt_cmp (od_eq hr.units) (de_var (i := 2) rfl (.inl rfl) rfl rfl) (de_str) rfl) (db_cons (ds_ret (de_op2 od_add (de_var (i := 1) rfl (.inl rfl) rfl rfl) (de_int))) (db_nil)) (db_nil)) (db_cons (ds_if (dt_cmp (od_eq hr.units) (de_var (i := 2) rfl (.inl rfl) rfl rfl) (de_str) rfl) (db_cons (ds_ret (de_fn h__law_ends hr (by omega) (takes_of rfl rfl rfl rfl) (by rfl) (dr_cons (de_var (i := 0) rfl (.inl rfl) rfl rfl) (dr_cons (de_op2 od_add (de_var (i := 1) rfl (.inl rfl) rfl rfl) (de_int)) (dr_nil) rfl) rfl))) (db_nil)) (db_nil)) (db_cons (ds_if (dt_cmp (od_ne hr.units) (de_var (i := 2) rfl (.inl rfl) rfl rfl) (de_str) rfl) (db_cons (ds_set (de_str) hN (i := 3) rfl (.inl rfl) rfl (.inr rfl)) (db_cons (ds_set (de_fn h__law_run hr (by omega) (takes_of rfl rfl rfl rfl) (by rfl) (dr_cons (de_var (i := 0) rfl (.inl rfl) rfl rfl) (dr_cons (de_var (i := 1) rfl (.inl rfl) rfl rfl) (dr_cons (de_var (i := 3) rfl (.inl rfl) rfl rfl) (dr_nil) rfl) rfl) rfl)) hN (i := 4) rfl (.inl rfl) rfl (.inr rfl)) (db_cons (ds_if (dt_cmp od_gt (de_var (i := 4) rfl (.inl rfl) rfl rfl) (de_var (i := 1) rfl (.inl rfl) rfl rfl) rfl) (db_cons (ds_ret (de_if (dt_cmp od_lt (de_op2 od_sub (de_var (i := 4) rfl (.inl rfl) rfl rfl) (de_var (i := 1) rfl (.inl rfl) rfl rfl)) (de_int) rfl) (de_var (i := 4) rfl (.inl rfl) rfl rfl) (de_int))) (db_nil)) (db_nil)) (db_cons (ds_set (de_fn h__law_run hr (by omega) (takes_of rfl rfl rfl rfl) (by rfl) (dr_cons (de_var (i := 0) rfl (.inl rfl) rfl rfl) (dr_cons (de_var (i := 1) rfl (.inl rfl) rfl rfl) (dr_cons (de_str) (dr_nil) rfl) rfl) rfl)) hN (i := 4) rfl (.inl rfl) rfl (.inr rfl)) (db_cons (ds_ret (de_if (dt_val (de_fn h__law_integer hr (by omega) (takes_of rfl rfl rfl rfl) (by rfl) (dr_cons (de_slice (de_var (i := 0) rfl (.inl rfl) rfl rfl) (do_some (de_var (i := 1) rfl (.inl rfl) rfl rfl)) (do_some (de_var (i := 4) rfl (.inl rfl) rfl rfl))) (dr_nil) rfl))) (de_var (i := 4) rfl (.inl rfl) rfl rfl) (de_int))) (db_nil)))))) (db_nil)) (db_cons (ds_set (de_fn h__law_ends hr (by omega) (takes_of rfl rfl rfl rfl) (by rfl) (dr_cons (de_var (i := 0) rfl (.inl rfl) rfl rfl) (dr_cons (de_op2 od_add (de_var (i := 1) rfl (.inl rfl) rfl rfl) (de_int)) (dr_nil) rfl) rfl)) hN (i := 4) rfl (.inl rfl) rfl (.inr rfl)) (db_cons (ds_if ((dw_or (dt_cmp (od_eq hr.units) (de_var (i := 4) rfl (.inl rfl) rfl rfl) (de_int) rfl) (dw_or1 (dt_cmp (od_ne hr.units) (de_slice (de_var (i := 0) rfl (.inl rfl) rfl rfl) (do_some (de_var (i := 4) rfl (.inl rfl) rfl rfl)) (do_some (de_op2 od_add (de_var (i := 4) rfl (.inl rfl) rfl rfl) (de_int)))) (de_str) rfl))).dt) (db_cons (ds_ret (de_int)) (db_nil)) (db_nil)) (db_cons (ds_set (de_op2 od_add (de_var (i := 4) rfl (.inl rfl) rfl rfl) (de_int)) hN (i := 5) rfl (.inl rfl) rfl (.inr rfl)) (db_cons (ds_while 1000000 (passes_of rfl) ((dw_and (dt_cmp od_lt (de_var (i := 5) rfl (.inl rfl) rfl rfl) (de_bi bi_len (by rfl) (q0_free S) boot_len (dv_cons (de_var (i := 0) rfl (.inl rfl) rfl rfl) (dv_nil) rfl)) rfl) (dw_and1 (dt_cmp (od_ne hr.units) (de_ix id_seq (de_var (i := 0) rfl (.inl rfl) rfl rfl) (de_var (i := 5) rfl (.inl rfl) rfl rfl) (fun _ _ => rfl)) (de_str) rfl))).dt) (db_cons (ds_set (de_op2 od_add (de_var (i := 5) rfl (.inl rfl) rfl rfl) (de_int)) hN (i := 5) rfl (.inl rfl) rfl (.inr rfl)) (db_nil))) (db_cons (ds_set (de_slice (de_var (i := 0) rfl (.inl rfl) rfl rfl) (do_some (de_op2 od_add (de_var (i := 4) rfl (.inl rfl) rfl rfl) (de_int))) (do_some (de_var (i := 5) rfl (.inl rfl) rfl rfl))) hN (i := 6) rfl (.inl rfl) rfl (.inr rfl)) (db_cons (ds_if ((dw_or (dt_cmp (od_alt od_notInSeq od_notInStr) (de_var (i := 6) rfl (.inl rfl) rfl rfl) (de_tup (dv_cons (de_str) (dv_cons (de_str) (dv_cons (de_str) (dv_cons (de_str) (dv_cons (de_str) (dv_cons (de_str) (dv_cons (de_str) (dv_cons (de_str) (dv_cons (de_str) (dv_nil) rfl) rfl) rfl) rfl) rfl) rfl) rfl) rfl) rfl)) rfl) (dw_or1 (dt_cmp (od_ne hr.units) (de_slice (de_var (i := 0) rfl (.inl rfl) rfl rfl) (do_some (de_var (i := 5) rfl (.inl rfl) rfl rfl)) (do_some (de_op2 od_add (de_var (i := 5) rfl (.inl rfl) rfl rfl) (de_int)))) (de_str) rfl))).dt) (db_cons (ds_ret (de_int)) (db_nil)) (db_nil)) (db_cons (ds_set (de_fn h__law_ends hr (by omega) (takes_of rfl rfl rfl rfl) (by rfl) (dr_cons (de_var (i := 0) rfl (.inl rfl) rfl rfl) (dr_cons (de_op2 od_add (de_var (i := 5) rfl (.inl rfl) rfl rfl) (de_int)) (dr_nil) rfl) rfl)) hN (i := 7) rfl (.inl rfl) rfl (.inr rfl)) (db_cons (ds_set (de_slice (de_var (i := 0) rfl (.inl rfl) rfl rfl) (do_some (de_op2 od_add (de_var (i := 5) rfl (.inl rfl) rfl rfl) (de_int))) (do_some (de_var (i := 7) rfl (.inl rfl) rfl rfl))) hN (i := 8) rfl (.inl rfl) rfl (.inr rfl)) (db_cons (ds_if ((dw_or (dt_cmp (od_eq hr.units) (de_var (i := 7) rfl (.inl rfl) rfl rfl) (de_int) rfl) (dw_or1 ((dw_and (dt_cmp (od_alt od_inSeq od_inStr) (de_var (i := 6) rfl (.inl rfl) rfl rfl) (de_tup (dv_cons (de_str) (dv_cons (de_str) (dv_nil) rfl) rfl)) rfl) (dw_and1 ((dw_or (dt_not (dt_val (de_fn h__law_integer hr (by omega) (takes_of rfl rfl rfl rfl) (by rfl) (dr_cons (de_var (i := 8) rfl (.inl rfl) rfl rfl) (dr_nil) rfl)))) (dw_or1 (dt_cmp od_lt (de_bty bi_int (by rfl) (q1_free S) boot_int (dv_cons (de_var (i := 8) rfl (.inl rfl) rfl rfl) (dv_nil) rfl)) (de_int) rfl))).dt))).dt))).dt) (db_cons (ds_ret (de_int)) (db_nil)) (db_nil)) (db_cons (ds_ret (de_if (dt_cmp (od_eq hr.units) (de_slice (de_var (i := 0) rfl (.inl rfl) rfl rfl) (do_some (de_var (i := 7) rfl (.inl rfl) rfl rfl)) (do_some (de_op2 od_add (de_var (i := 7) rfl (.inl rfl) rfl rfl) (de_int)))) (de_str) rfl) (de_op2 od_add (de_var (i := 7) rfl (.inl rfl) rfl rfl) (de_int)) (de_int))) (db_nil))))))))))))))

theorem ok__law_ends {P : Program} {w : World} {K : PySem.W.Frag} {mg : Str → Option Value} {base : Heap} (S : Sy K mg) (n : Nat) : DefOk P w K mg base d__law_ends "_law_ends" ["wording", "at"] (m__law_ends n) (1 + n * 1) := okr__law_ends S n
theorem ok__law_is_value {P : Program} {w : World} {K : PySem.W.Frag} {mg : Str → Option Value} {base : Heap} (S : Sy K mg) : DefOk P w K mg base d__law_is_value "_law_is_value" ["wording"] m__law_is_value 62 := by
  obtain ⟨fd, F⟩ := S.t.def_ 35 (d := d__law_is_value) rfl
  refine ck_fn S.s (S.e 36 _ rfl) F.kp (?_) (F.bindsN fun _ _ _ _ _ _ us hl => match us, hl with | [_], _ => rfl) F
  exact fnDn (k := 61) 0 [] b__law_is_value F sc__law_is_value rfl fun cdv A outer s H E b hr => by
    have hN := sc__law_is_value.nd
    delta b__law_is_value
    have h__law_ends := ok__law_ends (P := P) (w := w) (base := base) S 60
    exact db_cons (ds_if (dt_cmp od_gt (de_op2 od_add (de_bm PySem.F.plainAttrs_str PySem.F.slot_str_count PySem.F.type_str_count rcv_str bm_count (de_var (i := 0) rfl (.inl rfl) rfl rfl) (dv_cons (de_str) (dv_nil) rfl)) (de_bm PySem.F.plainAttrs_str PySem.F.slot_str_count PySem.F.type_str_count rcv_str bm_count (de_var (i := 0) rfl (.inl rfl) rfl rfl) (dv_cons (de_str) (dv_nil) rfl))) (de_int) rfl) (db_cons (ds_ret (de_bl)) (db_nil)) (db_nil)) (db_cons (ds_ret (de_and (de_cmp (od_ne hr.units) (de_var (i := 0) rfl (.inl rfl) rfl rfl) (de_str) rfl) (de_one (de_cmp (od_eq hr.units) (de_fn h__law_ends hr (by omega) (takes_of rfl rfl rfl rfl) (by rfl) (dr_cons (de_var (i := 0) rfl (.inl rfl) rfl rfl) (dr_cons (de_int) (dr_nil) rfl) rfl)) (de_bi bi_len (by rfl) (q0_free S) boot_len (dv_cons (de_var (i := 0) rfl (.inl rfl) rfl rfl) (dv_nil) rfl)) rfl)))) (db_nil))
theorem okr_show_step_show_steps {P : Program} {w : World} {K : PySem.W.Frag} {mg : Str → Option Value} {base : Heap} (S : Sy K mg) : ∀ n : Nat, DefOk P w K mg base d_show_step "show_step" ["step"] (m_show_step n) (60 + n * 1) ∧ DefOk P w K mg base d_show_steps "show_steps" ["steps"] (m_show_steps n) (60 + n * 1)
  | 0 => by
    obtain ⟨fd0, F0⟩ := S.t.def_ 36 (d := d_show_step) rfl
    obtain ⟨fd1, F1⟩ := S.t.def_ 37 (d := d_show_steps) rfl
    exact ⟨ck_fn S.s (S.e 37 _ rfl) F0.kp (fnBad) (F0.bindsN fun _ _ _ _ _ _ us hl => match us, hl with | [_], _ => rfl) F0, ck_fn S.s (S.e 38 _ rfl) F1.kp (fnBad) (F1.bindsN fun _ _ _ _ _ _ us hl => match us, hl with | [_], _ => rfl) F1⟩
  | n + 1 => by
    obtain ⟨fd0, F0⟩ := S.t.def_ 36 (d := d_show_step) rfl
    obtain ⟨fd1, F1⟩ := S.t.def_ 37 (d := d_show_steps) rfl
    obtain ⟨h_show_step, h_show_steps⟩ := okr_show_step_show_steps (P := P) (w := w) (base := base) S n
    refine ⟨ck_fn S.s (S.e 37 _ rfl) F0.kp (?_) (F0.bindsN fun _ _ _ _ _ _ us hl => match us, hl with | [_], _ => rfl) F0, ck_fn S.s (S.e 38 _ rfl) F1.kp (?_) (F1.bindsN fun _ _ _ _ _ _ us hl => match us, hl with | [_], _ => rfl) F1⟩
    · refine fnMono (fnDn (k := 60 + n * 1 + 0) 0 [] (b_show_step (m_show_steps n)) F0 sc_show_step rfl fun cdv A outer s H E b hr => ?_) (by omega)
      have hN := sc_show_step.nd
      delta b_show_step
      have h_show_value := ok_show_value (P := P) (w := w) (base := base) S 60
      exact db_cons (ds_set (de_fn h_show_value hr (by omega) (takes_of rfl rfl rfl rfl) (by rfl) (dr_cons (de_at (de_var (i := 0) rfl (.inl rfl) rfl rfl) (rd_fld (q31_fld S))) (dr_nil) rfl)) hN (i := 1) rfl (.inl rfl) rfl (.inr rfl)) (db_cons (ds_if (dt_cmp (od_eq hr.units) (de_at (de_var (i := 0) rfl (.inl rfl) rfl rfl) (rd_fld (q4_fld S))) (de_str) rfl) (db_cons (ds_ret (de_fstr (DJ.cons (de_str) (DJ.cons (de_fmt (de_at (de_var (i := 0) rfl (.inl rfl) rfl rfl) (rd_fld (q32_fld S)))) (DJ.cons (de_str) (DJ.cons (de_fmt (de_var (i := 1) rfl (.inl rfl) rfl rfl)) (DJ.nil))))))) (db_nil)) (db_nil)) (db_cons (ds_if (dt_cmp (od_eq hr.units) (de_at (de_var (i := 0) rfl (.inl rfl) rfl rfl) (rd_fld (q4_fld S))) (de_str) rfl) (db_cons (ds_ret (de_op2 od_add (de_str) (de_var (i := 1) rfl (.inl rfl) rfl rfl))) (db_nil)) (db_nil)) (db_cons (ds_ret (de_op2 od_add (de_op2 od_add (de_op2 od_add (de_op2 od_add (de_op2 od_add (de_op2 od_add (de_str) (de_var (i := 1) rfl (.inl rfl) rfl rfl)) (de_str)) (de_fn h_show_steps hr (by omega) (takes_of rfl rfl rfl rfl) (by rfl) (dr_cons (de_at (de_var (i := 0) rfl (.inl rfl) rfl rfl) (rd_fld (q33_fld S))) (dr_nil) rfl))) (de_str)) (de_fn h_show_steps hr (by omega) (takes_of rfl rfl rfl rfl) (by rfl) (dr_cons (de_at (de_var (i := 0) rfl (.inl rfl) rfl rfl) (rd_fld (q34_fld S))) (dr_nil) rfl))) (de_str))) (db_nil))))
    · refine fnMono (fnDn (k := 60 + n * 1 + 0) 0 [] (b_show_steps (m_show_step n)) F1 sc_show_steps rfl fun cdv A outer s H E b hr => ?_) (by omega)
      have hN := sc_show_steps.nd
      delta b_show_steps
      exact db_cons (ds_ret (de_bm PySem.F.plainAttrs_str PySem.F.slot_str_join PySem.F.type_str_join rcv_str bm_join (de_str) (dv_cons (de_lc (own := [("step", 1)]) rfl hN (di_seq (de_var (i := 0) rfl (.inl rfl) rfl rfl)) (blkOk_by (N := ["steps", "step"]) (sc := defScope (top 26)) (own := [("step", 1)]) (by decide +kernel)) (fun _ _ _ _ _ => dg_var (i := 1) hN rfl (.inl rfl) (.inr rfl) (by simp)) (fun _ _ _ _ _ => dts_nil) (fun _ _ _ _ _ => de_fn h_show_step hr (by omega) takes_none5 (by rfl) (dr_cons (de_var (i := 1) rfl (.inl rfl) rfl rfl) (dr_nil) rfl))) (dv_nil) rfl))) (db_nil)

theorem ok_show_step {P : Program} {w : World} {K : PySem.W.Frag} {mg : Str → Option Value} {base : Heap} (S : Sy K mg) (n : Nat) : DefOk P w K mg base d_show_step "show_step" ["step"] (m_show_step n) (60 + n * 1) := (okr_show_step_show_steps S n).1
theorem ok_show_steps {P : Program} {w : World} {K : PySem.W.Frag} {mg : Str → Option Value} {base : Heap} (S : Sy K mg) (n : Nat) : DefOk P w K mg base d_show_steps "show_steps" ["steps"] (m_show_steps n) (60 + n * 1) := (okr_show_step_show_steps S n).2
theorem ok_Step___init__ {P : Program} {w : World} {K : PySem.W.Frag} {mg : Str → Option Value} {base : Heap} (S : Sy K mg) : MkOk P w K mg base "Step" ["self", "sign", "name", "value", "steps", "others"] m_Step___init__ 1 := by
  obtain ⟨fd, F⟩ := S.t.def_ 38 (d := d_Step___init__) rfl
  refine ck_mk S.s (S.e 39 _ rfl) (?_) (F.bindsN fun _ _ _ _ _ _ us hl => match us, hl with | [_, _, _, _, _, _], _ => rfl)
  exact fnDn (k := 0) 0 [] b_Step___init__ F sc_Step___init__ rfl fun cdv A outer s H E b hr => by
    have hN := sc_Step___init__.nd
    delta b_Step___init__
    exact db_cons (ds_put (q35_fld S) (de_var (i := 0) rfl (.inl rfl) rfl rfl) (de_var (i := 1) rfl (.inl rfl) rfl rfl)) (db_cons (ds_put (q32_fld S) (de_var (i := 0) rfl (.inl rfl) rfl rfl) (de_var (i := 2) rfl (.inl rfl) rfl rfl)) (db_cons (ds_put (q31_fld S) (de_var (i := 0) rfl (.inl rfl) rfl rfl) (de_var (i := 3) rfl (.inl rfl) rfl rfl)) (db_cons (ds_put (q33_fld S) (de_var (i := 0) rfl (.inl rfl) rfl rfl) (de_var (i := 4) rfl (.inl rfl) rfl rfl)) (db_cons (ds_put (q34_fld S) (de_var (i := 0) rfl (.inl rfl) rfl rfl) (de_var (i := 5) rfl (.inl rfl) rfl rfl)) (db_nil)))))
theorem ok_answer {P : Program} {w : World} {K : PySem.W.Frag} {mg : Str → Option Value} {base : Heap} (S : Sy K mg) : DefOk P w K mg base d_answer "answer" ["value"] m_answer 5 := by
  obtain ⟨fd, F⟩ := S.t.def_ 39 (d := d_answer) rfl
  refine ck_fn S.s (S.e 40 _ rfl) F.kp (?_) (F.bindsN fun _ _ _ _ _ _ us hl => match us, hl with | [_], _ => rfl) F
  exact fnDn (k := 4) 0 [] b_answer F sc_answer rfl fun cdv A outer s H E b hr => by
    have hN := sc_answer.nd
    delta b_answer
    have h_Step___init__ := ok_Step___init__ (P := P) (w := w) (base := base) S
    have h_value_of := ok_value_of (P := P) (w := w) (base := base) S
    exact db_cons (ds_ret (de_mk h_Step___init__ hr (by omega) (takes_of rfl rfl rfl rfl) (by rfl) (dr_cons (de_str) (dr_cons (de_non) (dr_cons (de_fn h_value_of hr (by omega) (takes_of rfl rfl rfl rfl) (by rfl) (dr_cons (de_var (i := 0) rfl (.inl rfl) rfl rfl) (dr_nil) rfl)) (dr_cons (de_tup (dv_nil)) (dr_cons (de_tup (dv_nil)) (dr_nil) rfl) rfl) rfl) rfl) rfl))) (db_nil)
theorem ok__law_right {P : Program} {w : World} {K : PySem.W.Frag} {mg : Str → Option Value} {base : Heap} (S : Sy K mg) : DefOk P w K mg base d__law_right "_law_right" ["pool"] m__law_right 121 := by
  obtain ⟨fd, F⟩ := S.t.def_ 40 (d := d__law_right) rfl
  refine ck_fn S.s (S.e 41 _ rfl) F.kp (?_) (F.bindsN fun _ _ _ _ _ _ us hl => match us, hl with | [_], _ => rfl) F
  exact fnDn (k := 120) 0 [] b__law_right F sc__law_right rfl fun cdv A outer s H E b hr => by
    have hN := sc__law_right.nd
    delta b__law_right
    have h__law_worth := ok__law_worth (P := P) (w := w) (base := base) S 60
    have h_show_value := ok_show_value (P := P) (w := w) (base := base) S 60
    have h__law_value := ok__law_value (P := P) (w := w) (base := base) S 60
    have h__law_bent := ok__law_bent (P := P) (w := w) (base := base) S
    have h__law_caught := ok__law_caught (P := P) (w := w) (base := base) S
    have h__law_is_value := ok__law_is_value (P := P) (w := w) (base := base) S
    have h_show_steps := ok_show_steps (P := P) (w := w) (base := base) S 60
    have h_answer := ok_answer (P := P) (w := w) (base := base) S
    have hk_show_steps := kw_of (ks := ["steps"]) (g := fun l => l) h_show_steps rfl fun _ _ _ _ _ _ us hl => match us, hl with | [_], _ => rfl
    exact db_cons (ds_set (de_fn h__law_worth hr (by omega) (takes_of rfl rfl rfl rfl) (by rfl) (dr_cons (de_var (i := 0) rfl (.inl rfl) rfl rfl) (dr_cons (de_lst (dv_cons (de_str) (dv_cons (de_str) (dv_cons (de_str) (dv_nil) rfl) rfl) rfl)) (dr_cons (de_int) (dr_nil) rfl) rfl) rfl)) hN (i := 1) rfl (.inl rfl) rfl (.inr rfl)) (db_cons (ds_set (de_fn h_show_value hr (by omega) (takes_of rfl rfl rfl rfl) (by rfl) (dr_cons (de_fn h__law_value hr (by omega) (takes_of rfl rfl rfl rfl) (by rfl) (dr_cons (de_var (i := 1) rfl (.inl rfl) rfl rfl) (dr_cons (de_int) (dr_nil) rfl) rfl)) (dr_nil) rfl)) hN (i := 2) rfl (.inl rfl) rfl (.inr rfl)) (db_cons (ds_for (ws := [3]) (passes_of rfl) rfl (di_rng1 (by rfl) (q36_free S) (dv_cons (de_int) (dv_nil) rfl)) (dg_var (i := 3) hN rfl (.inl rfl) (.inr rfl) (by simp)) (db_cons (ds_set (de_fn h__law_bent hr (by omega) (takes_of rfl rfl rfl rfl) (by rfl) (dr_cons (de_var (i := 0) rfl (.inl rfl) rfl rfl) (dr_cons (de_var (i := 2) rfl (.inl rfl) rfl rfl) (dr_nil) rfl) rfl)) hN (i := 4) rfl (.inl rfl) rfl (.inr rfl)) (db_cons (ds_if (dt_cmp (od_ne hr.units) (de_fn h__law_caught hr (by omega) (takes_of rfl rfl rfl rfl) (by rfl) (dr_cons (de_var (i := 4) rfl (.inl rfl) rfl rfl) (dr_nil) rfl)) (de_if (dt_val (de_fn h__law_is_value hr (by omega) (takes_of rfl rfl rfl rfl) (by rfl) (dr_cons (de_var (i := 4) rfl (.inl rfl) rfl rfl) (dr_nil) rfl))) (de_lst (dv_cons (de_var (i := 4) rfl (.inl rfl) rfl rfl) (dv_nil) rfl)) (de_lst (dv_nil))) rfl) (db_cons (ds_ret (de_bl)) (db_nil)) (db_nil)) (db_nil))) (fun _ => rfl)) (db_cons (ds_ret (de_cmp (od_eq hr.units) (de_fnK (g := fun l => l) (hk_show_steps) perm_id hr (by omega) (takes_of rfl rfl rfl rfl) (by rfl) (dk_cons (de_lst (dv_cons (de_fn h_answer hr (by omega) (takes_of rfl rfl rfl rfl) (by rfl) (dr_cons (de_int) (dr_nil) rfl)) (dv_nil) rfl)) dk_nil)) (de_str) rfl)) (db_nil))))
theorem ok_law {P : Program} {w : World} {K : PySem.W.Frag} {mg : Str → Option Value} {base : Heap} (S : Sy K mg) : DefOk P w K mg base d_law "law" ["script"] m_law 122 := by
  obtain ⟨fd, F⟩ := S.t.def_ 41 (d := d_law) rfl
  refine ck_fn S.s (S.e 42 _ rfl) F.kp (?_) (F.bindsN fun _ _ _ _ _ _ us hl => match us, hl with | [_], _ => rfl) F
  exact fnDn (k := 121) 1 [(2, 0)] b_law F sc_law rfl fun cdv A outer s H E b hr => by
    have hN := sc_law.nd
    delta b_law
    have h__law_pool := ok__law_pool (P := P) (w := w) (base := base) S
    have h__law_right := ok__law_right (P := P) (w := w) (base := base) S
    exact db_cons (ds_for (ws := [1]) (passes_of rfl) rfl (di_rng1 (by rfl) (q36_free S) (dv_cons (de_bi (bi_max2 rfl) (by rfl) (q3_free S) boot_max (dv_cons (de_int) (dv_cons (de_bi (bi_min2 rfl) (by rfl) (q37_free S) boot_min (dv_cons (de_int) (dv_cons (de_bi bi_len (by rfl) (q0_free S) boot_len (dv_cons (de_var (i := 0) rfl (.inl rfl) rfl rfl) (dv_nil) rfl)) (dv_nil) rfl) rfl)) (dv_nil) rfl) rfl)) (dv_nil) rfl)) (dg_var (i := 1) hN rfl (.inl rfl) (.inr rfl) (by simp)) (db_cons (ds_own (de_fn h__law_pool hr (by omega) (takes_of rfl rfl rfl rfl) (by rfl) (dr_cons (de_var (i := 0) rfl (.inl rfl) rfl rfl) (dr_cons (de_var (i := 1) rfl (.inl rfl) rfl rfl) (dr_nil) rfl) rfl)) rfl hN (i := 2) rfl (.inl rfl) rfl (.inr rfl)) (db_cons (ds_for (ws := [3]) (passes_of rfl) rfl (di_rng1 (by rfl) (q36_free S) (dv_cons (de_int) (dv_nil) rfl)) (dg_var (i := 3) hN rfl (.inl rfl) (.inr rfl) (by simp)) (db_cons (ds_if (dt_not (dt_val (de_fn h__law_right hr (by omega) (takes_of rfl rfl rfl rfl) (by rfl) (dr_cons (de_var (i := 2) rfl (.inl rfl) rfl rfl) (dr_nil) rfl)))) (db_cons (ds_ret (de_bl)) (db_nil)) (db_nil)) (db_nil)) (fun _ => rfl)) (db_nil))) (fun _ => rfl)) (db_cons (ds_ret (de_bl)) (db_nil))
end LW
end

set_option Elab.async false
set_option linter.all false
set_option maxRecDepth 100000
set_option maxHeartbeats 0
namespace LW
open PySem PySem.W PySem.Calls PyProof.Rows

abbrev R : OpenRow := OpenLaw.row PySem.Challenge.rw_anyworker_k54_values_that_are_none
abbrev qv : Program := view R.prog [51]
def names0 : List PySem.Str := ["WorkError", "InvalidName", "UnknownName", "InvalidDivisor", "Unreadable", "LETTERS", "is_name", "check_name", "check_divisor", "cell", "passed", "number", "value_of", "parts_of", "names_in", "paired", "worth_of", "Value", "answer", "names_of_step", "Step", "show_value", "show_step", "show_steps", "DIGITS", "MOST_DIGITS", "MOST_SIGNS", "SIGNS", "is_number", "split_pair"]
def names1 : List PySem.Str := ["value_in", "value_of_text", "read_value", "_law_pool", "_law_draw", "_law_worth", "_law_part", "_law_value", "_law_integer", "_law_run", "_law_ends", "_law_is_value", "_law_caught", "_law_odd", "_law_bent", "_law_right"]
def names : List PySem.Str := names0 ++ names1
def exK (K : PySem.W.Frag) : Bool := exL.all fun c => c K
abbrev hk : PySem.W.Hook := He.hookX 5 [] fns [] [] exK
def ob (s : PySem.W.SharedT) : He.AlX := He.obsX 5 [] fns [] [] exK (HandSHeadRun.getT s)
theorem ob_eq (s : PySem.W.SharedT) : ob s = hk.obs s.abs := He.obsX_eq (HandSHeadRun.getT_eq s)
theorem run (w : World) : HandSHeadRun.RunEq R qv hk ob 40000 names w := by
  intro os
  kernel_rfl
theorem sy_of {w : World} {K : PySem.W.Frag} {h : Heap} {mg : Str → Option Value} (X : K.In h) (G : h.Ns mainGlobals mg) (c : He.SaysX [] fns [] [] exK w h K) : Sy K mg :=
  ⟨⟨h, X, G⟩, c.t.d, fun i ck hi => List.all_eq_true.mp c.more ck (List.mem_of_getElem? hi)⟩
theorem facts {P : Program} {w : World} {K : PySem.W.Frag} {h : Heap} {mg : Str → Option Value} {f : Addr} (X : K.In h) (G : h.Ns mainGlobals mg) (hfa : mg ("law" : Str) = some (.ref f)) (c : He.SaysX [] fns [] [] exK w h K) :
    ∃ fd : FuncData, (∀ (s : Shared) (v : Value), BindsTo s fd ⟨[v], []⟩ [("script", v)]) ∧ ∀ base : Heap, K.In base → base.Ns mainGlobals mg → L2.FnOk P w K mg base L2.CX0 122 f fd ["script"] (DL.sp0 ⟨P, w, K, mg⟩ 1 m_law) := by
  have S := sy_of X G c
  obtain ⟨fd, F⟩ := S.t.def_ 41 (d := d_law) rfl
  have key : ∀ base : Heap, ∃ fd', L2.FunD K d_law.name d_law.qual d_law.params d_law.body d_law.scope (d_law.dvs K) (d_law.kws K) f fd' ∧ DL.FnD P w K mg base 122 f fd' ["script"] m_law := fun base => by
    obtain ⟨f', fd', h1, h2, h3, h4, h5⟩ := (ok_law (P := P) (w := w) (base := base) S).ex
    rw [hfa] at h1
    cases h1
    exact ⟨fd', h5, h3⟩
  have hf : f = He.fAd K d_law.at_ := by
    obtain ⟨f', fd', h1, h2, h3, h4, h5⟩ := (ok_law (P := P) (w := w) (base := h) S).ex
    have h6 := DL.ck_glo (x := "law") S.s (S.e 42 _ rfl)
    rw [hfa] at h6
    cases h6
    rfl
  subst hf
  have b := L2.FunD.bindsA (ps := ["script"]) F fun _ _ _ _ _ _ us hl => match us, hl with | [_], _ => rfl
  refine ⟨fd, fun s v => b s [v] rfl, fun base _ _ => ?_⟩
  obtain ⟨fd', F', h3⟩ := key base
  cases DL.funD_uniq F F'
  exact DL.fn0 h3
end LW
open PySem PySem.W PySem.Calls PyProof.Rows
theorem PySem.Challenge.cw_anyworker_k54_values_that_are_none_holds : PySem.Challenge.rw_anyworker_k54_values_that_are_none.Holds := by
  w_on; o_law
  refine HandSHeadRun.head_any (r := OpenLaw.row PySem.Challenge.rw_anyworker_k54_values_that_are_none) (q := view (OpenLaw.row PySem.Challenge.rw_anyworker_k54_values_that_are_none).prog [51]) (H := LW.hk) (ob := LW.ob) (M := 40000) (loose := LW.names) (d := HandSHeadRun.topDef (OpenLaw.row PySem.Challenge.rw_anyworker_k54_values_that_are_none).prog 51) (kwd := []) LW.ob_eq
    (by kernel_rfl) (fun s => by kernel_rfl) LW.run (by kernel_rfl) (by kernel_rfl) (by kernel_rfl) (by rfl) (by first | assumption | decide +kernel) (by decide +kernel) ⟨rfl, rfl, rfl, rfl, rfl, by decide +kernel⟩ ?hw ?hc
  case hw => w_witness2
  case hc =>
    refine L2.walk_ofE (l := PySem.Challenge.rw_anyworker_k54_values_that_are_none) (n := 63) (k := 122) (x := "script") (CX := L2.CX0) rfl (by decide) (by kernel_rfl) ⟨rfl, by decide, by decide⟩ ?F (fun _ _ _ _ z => z)
    intro w mg fa h Y G hmg0
    obtain ⟨K, KX, c⟩ := Y
    have hmg : mg ("law" : PySem.Str) = some (.ref fa) := by
      have e : (HandSHeadRun.topDef (OpenLaw.row PySem.Challenge.rw_anyworker_k54_values_that_are_none).prog 51).name = ("law" : PySem.Str) := by kernel_rfl
      rw [← e]
      exact hmg0
    obtain ⟨fd, hb, hF⟩ := LW.facts (P := (PySem.Challenge.rw_anyworker_k54_values_that_are_none).prog) (w := w) KX G hmg c
    exact ⟨K, fd, DL.sp0 ⟨_, w, K, mg⟩ 1 LW.m_law, KX, hb, fun H a ns hl _ hS => DL.law_sp (n := 63) LW.law_true H a ns hl hS _, hF⟩
