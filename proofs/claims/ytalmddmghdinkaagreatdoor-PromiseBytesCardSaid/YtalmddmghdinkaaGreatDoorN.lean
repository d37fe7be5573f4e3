/-
  A part of the proof of PromiseBytes: lemmas, in short letters, printed by a program out of the longer texts; conditions: those that each lemma names.
-/
import Derived.Test.YtalmddmghdinkaaGreatDoorM
set_option linter.all false
set_option linter.deprecated false
noncomputable section
namespace Go.Vm.X
open Go Go.Vm Go.Proofs Go.Proofs.bt
set_option maxRecDepth 100000
def F9 (c:CF) (n:Nat) (a b:V) (d:S):bB:=
 ae (an .lss y3 a (.int .i64 0)) fun e=>jn (fun f g=>ae (an .rem y3 (nth f 0) (nth f 1)) fun f=>aC d g [some f]) fun f=>ax e ( ae (an .add y3 a (.int .i64
 1)) fun e=>ae (un .neg e) fun e=>f [e,b] d) ( f [a,b] d)
theorem E9 {O:aL} (h:O 9=none):cc O funcs types 9 (bR F9):= .bR h (aG Tryz.func9 (by kernel_rfl)) fun _ _ _ _ _=>by kernel_rfl
def Vz (c:CF) (n:Nat) (a:V) (b:S):bB:=
 af (aq b (bM 37 a (aw b))) fun a d=>ae (aD 5 d a) fun e=>af (au c false false (.fn 18 [] []) [e] d) fun d e=>ae (un .not d) fun d=>jn (fun f g=>ai
 (aj none g (ar (some []) g (aJ 0 (nth f 0)))) fun g h i=>ai (aj none h (ar (some (ag.aF g)) h (aM h g))) fun g h j=>ai (aj none h (ar (some []) h (aJ
 1 (nth f 0)))) fun h k l=>ai (aj none k (ar (some (ag.aF h)) k (aM k h))) fun h k m=>ai (aj none k (ar (some []) k (aJ 2 (nth f 0)))) fun k o p=>ai
 (aj none o (ar (some (ag.aF k)) o (aM o k))) fun k o q=>ai (aj none o (dD (some []) (some []) o (dL 1 3 3 (bz 3 [(.int .i64 0)]) [(0,1,g),(1,1,h),(2,1,
 k)] (aw o)))) fun g h k=>ai (aj none h (aH c (.fn 59 [] []) [g] h)) fun g h o=>ai (aj none h (ar (some []) h (aJ 3 (nth f 0)))) fun h r s=>ai (aj none r
 (ar (some (ag.aF h)) r (aM r h))) fun h r t=>ai (aj none r (aH c (.fn 59 [] []) [h] r)) fun h r u=>ai (aj none r (dD (some ([g,h].flatMap ag.aF))
 (some (ag.aF g)) r (bT iE 5 g h (aw r)))) fun g h r=>ai (aj none h (bk h g)) fun g h v=>bU (bE [0,1,0,4,0,16,63,127,0,256,1023,2047,4095] [i,
 j,l,m,p,q,k,o,s,t,u,r,v]) <| jn (fun i j=>aC b j [some (nth i 0)]) fun i=>bJ n (fun j k l=>ae (aJ 4 (nth k 1)) fun m=>ae (aM l m) fun m=>ae (aN
 m) fun m=>ae (an .lss y3 (nth k 0) m) fun m=>jn (fun o p=>jn (fun q r=>ae (an .add y3 (nth q 0) (.int .i64 1)) fun s=>j [s,(nth q 1),(nth q 2)] r) fun j=>ae
 (aJ 4 (nth o 2)) fun q=>ae (aM p q) fun q=>ae (ck 16 q (nth o 1)) fun q=>ae (aJ 0 q) fun q=>ae (aJ 0 q) fun q=>ae (aD 4 p q) fun q=>af (au c false
 true (.fn 60 [] []) [q] p) fun p q=>af (aq q (bT iE 5 (nth o 0) p (aw q))) fun p q=>ae (aJ 4 (nth o 2)) fun r=>ae (aM q r) fun r=>ae (ck 16 r (nth o 1))
 fun r=>ae (aJ 0 r) fun r=>ae (aJ 4 r) fun r=>ae (aD 4 q r) fun r=>af (au c false true (.fn 60 [] []) [r] q) fun q r=>af (aq r (bT iE 5 p q (aw
 r))) fun p q=>ae (aJ 4 (nth o 2)) fun r=>ae (aM q r) fun r=>ae (ck 16 r (nth o 1)) fun r=>ae (aJ 8 r) fun r=>ae (aJ 0 r) fun r=>ae (aD 4 q r) fun
 r=>af (au c false true (.fn 60 [] []) [r] q) fun q r=>af (aq r (bT iE 5 p q (aw r))) fun p q=>ae (aJ 4 (nth o 2)) fun r=>ae (aM q r) fun r=>ae (ck
 16 r (nth o 1)) fun r=>ae (aJ 8 r) fun r=>ae (aJ 4 r) fun r=>ae (aD 4 q r) fun r=>af (au c false true (.fn 60 [] []) [r] q) fun q r=>af (aq r (bT
 iE 5 p q (aw r))) fun p q=>j [(nth o 1),(nth o 2),p] q) fun j=>ax m ( j [(nth k 2),(nth k 0),(nth k 1)] l) ( i [(nth k 2)] l)) [(.int .i64 0),(nth f 0),g] h) fun f=>
 ax d ( aC b e [some .ah]) ( f [a] e)
theorem E24 {O:aL} (h:O 24=none):cc O funcs types 24 (cR Vz):= .cR h (aG Tryz.func24 (by kernel_rfl)) fun _ _ _ _=>by kernel_rfl
def VA (c:CF) (n:Nat) (a:V) (b:S):bB:=
 af (aq b (aT [(.int .i64 0),(.int .i64 0),(.int .i64 0),.ah,.ah] 55 (aw b))) fun d e=>af (au c false false (.fn 61 [] []) [a] e) fun e f=>ae (cV 0 e)
 fun g=>ae (cV 1 e) fun h=>ae (cV 2 e) fun e=>ae (an .neq (Tr.get types 58) e (.int .i64 0)) fun e=>ae (ay e false (some g)) fun i=>ae (ay e false (aN
 i)) fun i=>ae (ay e false (an .neq y3 i (.int .i64 3))) fun i=>ae (bn e (.bool true) i) fun e=>jn (fun i j=>ae (gE 1 (nth i 0) (some (nth i 1)) none none) fun
 k=>af (au c false false (.fn 61 [] []) [k] j) fun j l=>ae (cV 0 j) fun m=>ae (cV 1 j) fun o=>ae (cV 2 j) fun j=>ae (an .neq (Tr.get types 58) j (.int .i64
 0)) fun j=>jn (fun p q=>ae (gE 1 (nth p 0) (some (nth p 1)) none none) fun r=>ae (ck 1 (nth p 2) (.int .i64 0)) fun s=>ae (aM q s) fun s=>ae (ck 1 (nth p 2)
 (.int .i64 1)) fun t=>ae (aM q t) fun t=>ae (ck 1 (nth p 2) (.int .i64 2)) fun u=>ae (aM q u) fun u=>ae (aI [(.int .i64 0),(.int .i64 0),(.int .i64 0),.ah,.ah]
 [(0,1,s),(1,1,t),(2,1,u),(3,1,(nth p 3))]) fun s=>af (aq q (aT [(.int .i64 0),(.int .i64 0),(.int .i64 0),.ah,.ah] 55 (aw q))) fun q t=>af (aq t
 (aB 5 q s (aw t))) fun _ s=>ae (aN (nth p 3)) fun t=>jn (fun u v=>ae (aD 5 v (nth u 0)) fun w=>af (au c false false (.fn 22 [] []) [w] v) fun v w=>ae
 (aN v) fun x=>ae (an .eql y3 x (.int .i64 0)) fun x=>ae (ay x false (some (nth u 1))) fun y=>ae (ay x false (some v)) fun v=>af (fT x false (au c false
 true (.fn 63 [] []) [y,v] w) w) fun v w=>ae (ay x false (un .not v)) fun v=>ae (bn x (.bool true) v) fun v=>jn (fun x y=>ae (aD 5 y (nth x 0)) fun z=>ae
 (aN (nth x 1)) fun A=>ae (aN (nth x 2)) fun B=>ae (an .sub y3 A B) fun A=>af (aq y (aB 5 (nth x 3) z (aw y))) fun _ y=>aC b y [aD 5 y (nth x 3),some
 A,some (.int .i64 0)]) fun x=>ax v ( ae (aI [(.int .i64 0),(.int .i64 0),(.int .i64 0),.ah,.ah] []) fun v=>af (aq w (aB 5 (nth u 3) v (aw w))) fun _ v
 =>aC b v [aD 5 v (nth u 3),some (.int .i64 0),some (.int .i64 2)]) ( x [(nth u 0),(nth u 1),(nth u 2),(nth u 3)] w)) fun u=>bJ n (fun v w x=>ae (an .lss y3 (nth
 w 0) (nth w 1)) fun y=>jn (fun z A=>jn (fun B D=>ae (an .add y3 (nth B 0) (.int .i64 1)) fun E=>v [E,(nth B 1),(nth B 2),(nth B 3),(nth B 4),(nth B 5)] D) fun v=>
 af (aq A (aT [(.bool false),.ah,(.bool false),.ah,(.bool false),.ah,(.bool false),.ah,(.bool false),.ah,(.bool false),.ah,(.bool false),.ah,(.bool
 false),.ah] 124 (aw A))) fun A B=>jn (fun D E=>ae (aJ 4 (nth D 3)) fun F=>ae (aM E F) fun F=>ae (qn 4 4 (nth D 0) (.int .i64 0)) fun G=>ae (aD 4 E G) fun
 G=>ae (qn 4 4 (nth D 0) (.int .i64 1)) fun H=>ae (aD 4 E H) fun H=>ae (aI [(.bool false),.ah,(.bool false),.ah,(.bool false),.ah,(.bool false),.ah]
 [(0,4,G),(4,4,H)]) fun G=>ae (qn 4 4 (nth D 0) (.int .i64 2)) fun H=>ae (aD 4 E H) fun H=>ae (qn 4 4 (nth D 0) (.int .i64 3)) fun I=>ae (aD 4 E I) fun I
 =>ae (aI [(.bool false),.ah,(.bool false),.ah,(.bool false),.ah,(.bool false),.ah] [(0,4,H),(4,4,I)]) fun H=>ae (aI [(.bool false),.ah,(.bool
 false),.ah,(.bool false),.ah,(.bool false),.ah,(.bool false),.ah,(.bool false),.ah,(.bool false),.ah,(.bool false),.ah] [(0,8,G),(8,8,H)]) fun G=>af
 (aq E (dL 16 1 108 (bz 1 [(.bool false),.ah,(.bool false),.ah,(.bool false),.ah,(.bool false),.ah,(.bool false),.ah,(.bool false),.ah,(.bool false),.ah,
 (.bool false),.ah]) [(0,16,G)] (aw E))) fun E G=>af (aq G (bT sw 108 F E (aw G))) fun E F=>ae (aJ 4 (nth D 3)) fun G=>af (aq F (aB 1 G E (aw F)))
 fun _ E=>v [(nth D 1),(nth D 2),(nth D 3),(nth D 4),(nth D 5),(nth D 6)] E) fun v=>bJ n (fun D E F=>ae (an .lss y3 (nth E 0) (.int .i64 4)) fun G=>jn (fun H I=>
 jn (fun J K=>ae (an .add y3 (nth J 0) (.int .i64 1)) fun L=>D [L,(nth J 1),(nth J 2),(nth J 3),(nth J 4),(nth J 5),(nth J 6),(nth J 7)] K) fun D=>af (au c false
 true (.fn 62 [] []) [(nth H 0)] I) fun I J=>ae (cV 0 I) fun K=>ae (cV 1 I) fun L=>ae (cV 2 I) fun I=>af (aq J (aT [(.bool false),.ah,(.bool false),.ah]
 45 (aw J))) fun J M=>af (aq M (aB 4 J K (aw M))) fun _ K=>ae (an .neq (Tr.get types 58) I (.int .i64 0)) fun I=>jn (fun M N=>ae (aD 4 N (nth M 1)) fun O=>
 ae (gE 1 (nth M 2) (some (nth M 3)) none none) fun P=>ae (qn 4 4 (nth M 5) (nth M 0)) fun Q=>af (aq N (aB 4 Q O (aw N))) fun _ N=>D [(nth M 4),(nth M 5),(nth
 M 6),(nth M 7),(nth M 8),(nth M 9),P,(nth M 10)] N) fun D=>ax I ( ae (aI [(.int .i64 0),(.int .i64 0),(.int .i64 0),.ah,.ah] []) fun I=>af (aq K (aB
 5 (nth H 7) I (aw K))) fun _ I=>aC b I [aD 5 I (nth H 7),some (.int .i64 0),some (.int .i64 2)]) ( D [(nth H 1),J,(nth H 0),L,(nth H 1),(nth H 2),(nth H 3),(nth H 4),
 (nth H 5),(nth H 6),(nth H 7)] K)) fun D=>ax G ( D [(nth E 6),(nth E 0),(nth E 1),(nth E 2),(nth E 3),(nth E 4),(nth E 5),(nth E 7)] F) ( v [(nth E 1),(nth E 2),(nth
 E 3),(nth E 4),(nth E 5),(nth E 6),(nth E 7)] F)) [(.int .i64 0),A,(nth z 0),(nth z 1),(nth z 2),(nth z 3),(nth z 4),(nth z 5)] B) fun v=>ax y ( v [(nth w 0),(nth w
 1),(nth w 2),(nth w 3),(nth w 4),(nth w 5)] x) ( u [(nth w 2),(nth w 3),(nth w 4),(nth w 5)] x)) [(.int .i64 0),t,q,(nth p 4),r,(nth p 5)] s) fun p=>ax j ( ae (aI
 [(.int .i64 0),(.int .i64 0),(.int .i64 0),.ah,.ah] []) fun j=>af (aq l (aB 5 (nth i 4) j (aw l))) fun _ j=>aC b j [aD 5 j (nth i 4),some (.int .i64 0),some
 (.int .i64 2)]) ( p [k,o,(nth i 2),m,(nth i 3),(nth i 4)] l)) fun i=>ax e ( ae (aI [(.int .i64 0),(.int .i64 0),(.int .i64 0),.ah,.ah] []) fun e=>af (aq
 f (aB 5 d e (aw f))) fun _ e=>aC b e [aD 5 e d,some (.int .i64 0),some (.int .i64 2)]) ( i [a,h,g,a,d] f)
theorem E25 {O:aL} (h:O 25=none):cc O funcs types 25 (cR VA):= .cR h (aG Tryz.func25 (by kernel_rfl)) fun _ _ _ _=>by kernel_rfl
def S9 (c:CF) (n:Nat) (a b:V) (d:S):bB:=
 ae (aN a) fun e=>ae (EB false [e,b]) fun b=>ae (gE 1 a none (some b) none) fun a=>af (aq d (bT iE 5 .ah a (aw d))) fun a b=>aC d b [some a]
theorem E26 {O:aL} (h:O 26=none):cc O funcs types 26 (bR S9):= .bR h (aG Tryz.func26 (by kernel_rfl)) fun _ _ _ _ _=>by kernel_rfl
def Tc (c:CF) (n:Nat) (a b:V) (d:S):bB:=
 af (aq d (bM 45 a (aw d))) fun a e=>af (aq e (bM 45 b (aw e))) fun b e=>af (aq e (aT [(.bool false),.ah,(.bool false),.ah] 45 (aw e))) fun e f=>
 ai (aj none f (ar (some []) f (aJ 0 a))) fun f g h=>ai (aj none g (ar (some (ag.aF f)) g (aD 2 g f))) fun f g i=>ai (aj none g (ar (some (ag.aF
 b)) g (aD 4 g b))) fun g j k=>ai (aj none j (aH c (.fn 69 [] []) [g] j)) fun g j l=>ai (aj none j (aH c (.fn 68 [] []) [f,g] j)) fun f g j=>ai (aj none
 g (dD (some []) (some []) g (aT [(.bool false),.ah] 43 (aw g)))) fun g m o=>ai (aj none m (dD (some (ag.aF g)) (some (ag.aF g)) m (aB 2 g f (aw m)))) fun
 _ f m=>bU (bE [0,1,0,4,15,0,63] [h,i,k,l,j,o,m]) <| ai (aj none f (ar (some []) f (aJ 0 b))) fun f h i=>ai (aj none h (ar (some (ag.aF f))
 h (aD 2 h f))) fun f h j=>ai (aj none h (ar (some (ag.aF a)) h (aD 4 h a))) fun h k l=>ai (aj none k (aH c (.fn 69 [] []) [h] k)) fun h k m=>ai (aj
 none k (aH c (.fn 68 [] []) [f,h] k)) fun f h k=>ai (aj none h (dD (some []) (some []) h (aT [(.bool false),.ah] 43 (aw h)))) fun h o p=>ai (aj none o (dD
 (some (ag.aF h)) (some (ag.aF h)) o (aB 2 h f (aw o)))) fun _ f o=>bU (bE [0,1,0,4,15,0,63] [i,j,l,m,k,p,o]) <| ai (aj none f (ar (some (ag.aF
 g)) f (aD 2 f g))) fun f g i=>ai (aj none g (ar (some (ag.aF h)) g (aD 2 g h))) fun g h j=>ai (aj none h (aH c (.fn 70 [] []) [f,g] h)) fun f g h=>ai
 (aj none g (ar (some (ag.aF a)) g (aD 4 g a))) fun a g k=>ai (aj none g (aH c (.fn 69 [] []) [a] g)) fun a g l=>ai (aj none g (ar (some (ag.aF
 b)) g (aD 4 g b))) fun b g m=>ai (aj none g (aH c (.fn 69 [] []) [b] g)) fun b g o=>ai (aj none g (aH c (.fn 68 [] []) [a,b] g)) fun a b g=>ai (aj none
 b (aH c (.fn 66 [] []) [f,a] b)) fun a b f=>ai (aj none b (dD (some (ag.aF e)) (some (ag.aF e)) b (aB 4 e a (aw b)))) fun _ a b=>bU (bE [0,0,3,
 0,15,0,63,127,255,511] [i,j,h,k,l,m,o,g,f,b]) <| aC d a [aD 4 a e]
theorem E33 {O:aL} (h:O 33=none):cc O funcs types 33 (bR Tc):= .bR h (aG Tryz.func33 (by kernel_rfl)) fun _ _ _ _ _=>by kernel_rfl
def Te (c:CF) (n:Nat) (a:V) (b:S):bB:=
 af (aq b (bM 55 a (aw b))) fun a d=>ae (aJ 3 a) fun e=>ae (aM d e) fun e=>ae (aN e) fun e=>ae (aJ 4 a) fun f=>ae (aM d f) fun f=>ae (aN
 f) fun f=>ae (an .eql y3 e f) fun e=>ae (ay e true (aJ 1 a)) fun f=>ae (ay e true (aM d f)) fun f=>ae (ay e true (aJ 2 a)) fun g=>ae (ay e true
 (aM d g)) fun g=>ae (ay e true (an .leq y3 f g)) fun f=>ae (bn e f (.bool false)) fun e=>ae (ay e true (aJ 3 a)) fun a=>ae (ay e true (aM d a)) fun
 a=>af (fT e true (au c false true (.fn 86 [] []) [a] d) d) fun a d=>ae (bn e a (.bool false)) fun a=>aC b d [some a]
theorem E41 {O:aL} (h:O 41=none):cc O funcs types 41 (cR Te):= .cR h (aG Tryz.func41 (by kernel_rfl)) fun _ _ _ _=>by kernel_rfl
def Tg (c:CF) (n:Nat) (a b:V) (d:S):bB:=
 ae (aN a) fun e=>ae (aN b) fun f=>ae (an .neq y3 e f) fun e=>jn (fun f g=>jn (fun _ h=>aC d h [some (.bool true)]) fun h=>bJ n (fun i j k=>ae (aN
 (nth j 1)) fun l=>ae (an .lss y3 (nth j 0) l) fun l=>jn (fun m o=>jn (fun p q=>ae (an .add y3 (nth p 0) (.int .i64 1)) fun r=>i [r,(nth p 1),(nth p 2)] q) fun
 i=>ae (ck 1 (nth m 1) (nth m 0)) fun p=>ae (aM o p) fun p=>ae (ck 1 (nth m 2) (nth m 0)) fun q=>ae (aM o q) fun q=>ae (an .neq y3 p q) fun p=>jn (fun
 q r=>i [(nth q 0),(nth q 1),(nth q 2)] r) fun i=>ax p ( aC d o [some (.bool false)]) ( i [(nth m 0),(nth m 1),(nth m 2)] o)) fun i=>ax l ( i [(nth j 0),(nth j 1),
 (nth j 2)] k) ( h [] k)) [(.int .i64 0),(nth f 0),(nth f 1)] g) fun f=>ax e ( aC d d [some (.bool false)]) ( f [a,b] d)
theorem E47 {O:aL} (h:O 47=none):cc O funcs types 47 (bR Tg):= .bR h (aG Tryz.func47 (by kernel_rfl)) fun _ _ _ _ _=>by kernel_rfl
def F50 (c:CF) (n:Nat) (a b:V) (d:S):bB:=
 af (aq d (bM 108 a (aw d))) fun a e=>ae (aJ 4 b) fun b=>ae (aM e b) fun b=>ae (aD 16 e a) fun a=>af (au c false true (.fn 51 [] []) [b,a] e) fun
 a b=>ae (aN a) fun a=>ae (an .gtr y3 a (.int .i64 0)) fun a=>aC d b [some a]
theorem E50 {O:aL} (h:O 50=none):cc O funcs types 50 (bR F50):= .bR h (aG Tryz.func50 (by kernel_rfl)) fun _ _ _ _ _=>by kernel_rfl
def VD (c:CF) (n:Nat) (a:V) (b:S):bB:=
 ae (aN a) fun d=>af (au c false true (.fn 98 [] []) [d] b) fun d e=>ae (aN a) fun f=>jn (fun g h=>aC b h [some (nth g 0)]) fun b=>bJ n (fun g h i=>
 ae (an .lss y3 (nth h 0) (nth h 1)) fun j=>jn (fun k l=>jn (fun m o=>ae (an .add y3 (nth m 0) (.int .i64 1)) fun p=>g [p,(nth m 1),(nth m 2),(nth m 3)] o) fun g
 =>ae (ck 1 (nth k 3) (nth k 1)) fun m=>ae (aM l m) fun m=>af (au c false true (.fn 98 [] []) [m] l) fun l m=>af (aq m (bT iE 5 (nth k 0) l (aw m))) fun
 l m=>g [(nth k 1),(nth k 2),(nth k 3),l] m) fun g=>ax j ( g [(nth h 3),(nth h 0),(nth h 1),(nth h 2)] i) ( b [(nth h 3)] i)) [(.int .i64 0),f,a,d] e
theorem E56 {O:aL} (h:O 56=none):cc O funcs types 56 (cR VD):= .cR h (aG Tryz.func56 (by kernel_rfl)) fun _ _ _ _=>by kernel_rfl
def VE (c:CF) (n:Nat) (a:V) (b:S):bB:=
 af (aq b (bM 45 a (aw b))) fun a d=>ae (aJ 0 a) fun e=>ae (aD 2 d e) fun e=>af (au c true false (.fn 100 [] []) [e] d) fun d e=>ae (aJ 2 a) fun a
 =>ae (aD 2 e a) fun a=>af (au c true false (.fn 100 [] []) [a] e) fun a e=>af (aq e (dL 1 2 70 (bz 2 [.ah]) [(0,1,d),(1,1,a)] (aw e))) fun a d=>af
 (au c true false (.fn 57 [] []) [a] d) fun a d=>aC b d [some a]
theorem E58 {O:aL} (h:O 58=none):cc O funcs types 58 (cR VE):= .cR h (aG Tryz.func58 (by kernel_rfl)) fun _ _ _ _=>by kernel_rfl
def VG (c:CF) (n:Nat) (a:V) (b:S):bB:=
 af (au c false false (.fn 103 [] []) [a,(.int .i64 1)] b) fun d e=>ae (cV 0 d) fun f=>ae (cV 1 d) fun g=>ae (cV 2 d) fun d=>ae (an .neq (Tr.get types
 58) d (.int .i64 0)) fun h=>jn (fun i j=>af (au c false false (.fn 104 [] []) [(nth i 0),(nth i 2)] j) fun j k=>jn (fun l m=>aC b m [some (nth l 0),some (nth l 1),
 some (.int .i64 0)]) fun l=>bJ n (fun m o p=>ae (an .lss y3 (nth o 0) (nth o 1)) fun q=>jn (fun r s=>jn (fun t u=>ae (an .add y3 (nth t 0) (.int .i64 1)) fun
 v=>m [v,(nth t 1),(nth t 2),(nth t 3),(nth t 4)] u) fun m=>af (au c false false (nth r 3) [] s) fun s t=>ae (cV 0 s) fun u=>ae (cV 1 s) fun v=>ae (cV
 2 s) fun s=>ae (an .neq (Tr.get types 58) s (.int .i64 0)) fun w=>jn (fun x y=>af (aq y (dL 1 1 3 (bz 1 [(.int .i64 0)]) [(0,1,(nth x 1))] (aw y))) fun y z=>
 af (aq z (bT iV 3 (nth x 0) y (aw z))) fun y z=>m [(nth x 3),(nth x 4),(nth x 5),y,(nth x 2)] z) fun m=>ax w ( aC b t [some .ah,some (.int .i64 0),some s])
 ( m [(nth r 0),u,v,(nth r 1),(nth r 2),(nth r 3)] t)) fun m=>ax q ( m [(nth o 3),(nth o 0),(nth o 1),(nth o 2)] p) ( l [(nth o 3),(nth o 4)] p)) [(.int .i64 0),(nth i
 1),j,.ah,(nth i 2)] k) fun i=>ax h ( aC b e [some .ah,some (.int .i64 0),some d]) ( i [a,f,g] e)
theorem E61 {O:aL} (h:O 61=none):cc O funcs types 61 (cR VG):= .cR h (aG Tryz.func61 (by kernel_rfl)) fun _ _ _ _=>by kernel_rfl
def VH (c:CF) (n:Nat) (a:V) (b:S):bB:=
 af (aq b (aT [(.bool false),.ah,(.bool false),.ah] 45 (aw b))) fun d e=>af (au c false true (.fn 105 [] []) [a] e) fun e f=>ae (cV 0 e) fun g=>ae
 (cV 1 e) fun h=>ae (cV 2 e) fun e=>af (aq f (aT [(.bool false),.ah] 43 (aw f))) fun f i=>af (aq i (aB 2 f g (aw i))) fun _ g=>ae (an .neq (Tr.get
 types 58) e (.int .i64 0)) fun i=>jn (fun j k=>ae (gE 1 (nth j 0) (some (nth j 2)) none none) fun l=>af (au c false true (.fn 105 [] []) [l] k) fun k l=>ae (cV
 0 k) fun m=>ae (cV 1 k) fun o=>ae (cV 2 k) fun k=>af (aq l (aT [(.bool false),.ah] 43 (aw l))) fun l p=>af (aq p (aB 2 l m (aw p))) fun _ m=>ae
 (an .neq (Tr.get types 58) k (.int .i64 0)) fun p=>jn (fun q r=>ae (aD 2 r (nth q 0)) fun s=>ae (aD 2 r (nth q 1)) fun t=>ae (aI [(.bool false),.ah,(.bool
 false),.ah] [(0,2,s),(2,2,t)]) fun s=>af (aq r (aT [(.bool false),.ah,(.bool false),.ah] 45 (aw r))) fun r t=>af (aq t (aB 4 r s (aw t))) fun _ s
 =>ae (aD 4 s r) fun t=>af (au c false false (.fn 106 [] []) [t] s) fun s t=>jn (fun u v=>ae (aI [(.bool false),.ah,(.bool false),.ah] []) fun w=>af
 (aq v (aB 4 (nth u 0) w (aw v))) fun _ v=>aC b v [aD 4 v (nth u 0),some (.int .i64 0),some (.int .i64 2)]) fun u=>ax s ( ae (aD 4 t r) fun r=>ae (an .add
 y3 (nth q 2) (nth q 3)) fun s=>af (aq t (aB 4 (nth q 4) r (aw t))) fun _ r=>aC b r [aD 4 r (nth q 4),some s,some (.int .i64 0)]) ( u [(nth q 4)] t)) fun q=>ax
 p ( ae (aI [(.bool false),.ah,(.bool false),.ah] []) fun p=>af (aq m (aB 4 (nth j 3) p (aw m))) fun _ p=>aC b p [aD 4 p (nth j 3),some (.int .i64 0),some
 k]) ( q [(nth j 1),l,(nth j 2),o,(nth j 3)] m)) fun j=>ax i ( ae (aI [(.bool false),.ah,(.bool false),.ah] []) fun i=>af (aq g (aB 4 d i (aw g))) fun
 _ i=>aC b i [aD 4 i d,some (.int .i64 0),some e]) ( j [a,f,h,d] g)
theorem E62 {O:aL} (h:O 62=none):cc O funcs types 62 (cR VH):= .cR h (aG Tryz.func62 (by kernel_rfl)) fun _ _ _ _=>by kernel_rfl
def VI (c:CF) (n:Nat) (a:V) (b:S):bB:=
 af (aq b (aT [(.bool false),.ah,(.bool false),.ah] 45 (aw b))) fun d e=>af (au c false true (.fn 110 [] []) [a] e) fun e f=>ae (cV 0 e) fun g=>ae
 (cV 1 e) fun h=>ae (cV 2 e) fun e=>af (aq f (aT [(.bool false),.ah] 43 (aw f))) fun f i=>af (aq i (aB 2 f g (aw i))) fun _ g=>ae (an .neq (Tr.get
 types 58) e (.int .i64 0)) fun i=>jn (fun j k=>ae (gE 1 (nth j 0) (some (nth j 2)) none none) fun l=>af (au c false true (.fn 110 [] []) [l] k) fun k l=>ae (cV
 0 k) fun m=>ae (cV 1 k) fun o=>ae (cV 2 k) fun k=>af (aq l (aT [(.bool false),.ah] 43 (aw l))) fun l p=>af (aq p (aB 2 l m (aw p))) fun _ m=>ae
 (an .neq (Tr.get types 58) k (.int .i64 0)) fun p=>jn (fun q r=>ae (aD 2 r (nth q 0)) fun s=>ae (aD 2 r (nth q 1)) fun t=>ae (aI [(.bool false),.ah,(.bool
 false),.ah] [(0,2,s),(2,2,t)]) fun s=>af (aq r (aT [(.bool false),.ah,(.bool false),.ah] 45 (aw r))) fun r t=>af (aq t (aB 4 r s (aw t))) fun _ s
 =>ae (aD 4 s r) fun t=>af (au c false false (.fn 111 [] []) [t] s) fun s t=>ae (un .not s) fun s=>jn (fun u v=>ae (aD 4 v (nth u 0)) fun w=>ae (an .add
 y3 (nth u 1) (nth u 2)) fun x=>af (aq v (aB 4 (nth u 3) w (aw v))) fun _ v=>aC b v [aD 4 v (nth u 3),some x,some (.int .i64 0)]) fun u=>ax s ( ae (aI [(.bool
 false),.ah,(.bool false),.ah] []) fun s=>af (aq t (aB 4 (nth q 4) s (aw t))) fun _ s=>aC b s [aD 4 s (nth q 4),some (.int .i64 0),some (.int .i64 2)]) ( u [r,
 (nth q 2),(nth q 3),(nth q 4)] t)) fun q=>ax p ( ae (aI [(.bool false),.ah,(.bool false),.ah] []) fun p=>af (aq m (aB 4 (nth j 3) p (aw m))) fun _ p=>
 aC b p [aD 4 p (nth j 3),some (.int .i64 0),some k]) ( q [(nth j 1),l,(nth j 2),o,(nth j 3)] m)) fun j=>ax i ( ae (aI [(.bool false),.ah,(.bool false),.ah]
 []) fun i=>af (aq g (aB 4 d i (aw g))) fun _ i=>aC b i [aD 4 i d,some (.int .i64 0),some e]) ( j [a,f,h,d] g)
theorem E65 {O:aL} (h:O 65=none):cc O funcs types 65 (cR VI):= .cR h (aG Tryz.func65 (by kernel_rfl)) fun _ _ _ _=>by kernel_rfl
def To (c:CF) (n:Nat) (a b:V) (d:S):bB:=
 af (aq d (bM 43 a (aw d))) fun a e=>af (aq e (bM 43 b (aw e))) fun b e=>af (aq e (aT [(.bool false),.ah] 43 (aw e))) fun e f=>ae (aJ 1 a) fun g
 =>ae (aM f g) fun g=>ae (aN g) fun g=>ae (aJ 1 b) fun h=>ae (aM f h) fun h=>ae (aN h) fun h=>ae (an .add y3 g h) fun g=>af (aq f (bQ
 types 22 g g (aw f))) fun f g=>jn (fun h i=>ae (aJ 0 (nth h 0)) fun j=>ae (aM i j) fun j=>ae (aJ 0 (nth h 1)) fun k=>ae (aM i k) fun k=>ae (an .neq
 (Tr.get types 4) j k) fun j=>af (au c false true (.fn 116 [] []) [j,(nth h 2)] i) fun i j=>af (aq j (aB 2 (nth h 3) i (aw j))) fun _ i=>aC d i [aD 2 i (nth h
 3)]) fun d=>bJ n (fun h i j=>ae (aJ 1 (nth i 1)) fun k=>ae (aM j k) fun k=>ae (aN k) fun k=>ae (an .lss y3 (nth i 0) k) fun k=>jn (fun l m=>jn (fun
 o p=>ae (an .add y3 (nth o 0) (.int .i64 1)) fun q=>h [q,(nth o 1),(nth o 2),(nth o 3),(nth o 4)] p) fun h=>jn (fun o p=>ae (aJ 1 (nth o 3)) fun q=>ae (aM
 p q) fun q=>ae (aN q) fun q=>ae (an .add y3 (nth o 1) q) fun q=>ae (ck 1 (nth o 4) q) fun q=>af (aq p (aB 1 q (nth o 0) (aw p))) fun _ p=>h [(nth o 1),
 (nth o 2),(nth o 3),(nth o 4),(nth o 5)] p) fun h=>bJ n (fun o p q=>ae (aJ 1 (nth p 4)) fun r=>ae (aM q r) fun r=>ae (aN r) fun r=>ae (an .lss y3 (nth
 p 0) r) fun r=>jn (fun s t=>jn (fun u v=>ae (an .add y3 (nth u 0) (.int .i64 1)) fun w=>o [w,(nth u 1),(nth u 2),(nth u 3),(nth u 4),(nth u 5),(nth u 6)] v) fun o
 =>ae (an .add y3 (nth s 2) (nth s 1)) fun u=>ae (ck 1 (nth s 5) u) fun u=>ae (aM t u) fun u=>ae (aJ 1 (nth s 3)) fun v=>ae (aM t v) fun v=>ae (ck
 1 v (nth s 2)) fun v=>ae (aM t v) fun v=>ae (aJ 1 (nth s 4)) fun w=>ae (aM t w) fun w=>ae (ck 1 w (nth s 1)) fun w=>ae (aM t w) fun w=>ae (an .mul
 y3 v w) fun v=>ae (an .add y3 u v) fun u=>ae (an .add y3 u (nth s 0)) fun u=>ae (an .add y3 (nth s 2) (nth s 1)) fun v=>ae (an .rem y3 u (.int .i64 1000000000))
 fun w=>ae (ck 1 (nth s 5) v) fun v=>af (aq t (aB 1 v w (aw t))) fun _ t=>ae (an .quo y3 u (.int .i64 1000000000)) fun u=>o [(nth s 1),u,(nth s 2),(nth s
 3),(nth s 4),(nth s 5),(nth s 6)] t) fun o=>ax r ( o [(nth p 1),(nth p 0),(nth p 2),(nth p 3),(nth p 4),(nth p 5),(nth p 6)] q) ( h [(nth p 1),(nth p 2),(nth p 3),(nth
 p 4),(nth p 5),(nth p 6)] q)) [(.int .i64 0),(.int .i64 0),(nth l 0),(nth l 1),(nth l 2),(nth l 3),(nth l 4)] m) fun h=>ax k ( h [(nth i 0),(nth i 1),(nth i 2),(nth
 i 3),(nth i 4)] j) ( d [(nth i 1),(nth i 2),(nth i 3),(nth i 4)] j)) [(.int .i64 0),a,b,f,e] g
theorem E68 {O:aL} (h:O 68=none):cc O funcs types 68 (bR To):= .bR h (aG Tryz.func68 (by kernel_rfl)) fun _ _ _ _ _=>by kernel_rfl
def Tq (c:CF) (n:Nat) (a b:V) (d:S):bB:=
 af (aq d (bM 43 a (aw d))) fun a e=>af (aq e (bM 43 b (aw e))) fun b e=>af (aq e (aT [(.bool false),.ah] 43 (aw e))) fun e f=>ae (aJ 0 a) fun g
 =>ae (aM f g) fun g=>ae (aJ 0 b) fun h=>ae (aM f h) fun h=>ae (an .eql (Tr.get types 4) g h) fun g=>jn (fun h i=>ae (aJ 1 (nth h 0)) fun j=>ae (aM
 i j) fun j=>ae (aJ 1 (nth h 1)) fun k=>ae (aM i k) fun k=>af (au c false false (.fn 118 [] []) [j,k] i) fun i j=>ae (an .lss y3 i (.int .i64 0)) fun i=>
 jn (fun k l=>ai (aj none l (ar (some []) l (aJ 0 (nth k 0)))) fun l m o=>ai (aj none m (ar (some (ag.aF l)) m (aM m l))) fun l m p=>ai (aj none m
 (ar (some []) m (aJ 1 (nth k 0)))) fun m q r=>ai (aj none q (ar (some (ag.aF m)) q (aM q m))) fun m q s=>ai (aj none q (ar (some []) q (aJ 1 (nth k 1))))
 fun q t u=>ai (aj none t (ar (some (ag.aF q)) t (aM t q))) fun q t v=>ai (aj none t (aH c (.fn 119 [] []) [m,q] t)) fun m q t=>ai (aj none q (aH
 c (.fn 116 [] []) [l,m] q)) fun l m q=>ai (aj none m (dD (some (ag.aF (nth k 2))) (some (ag.aF (nth k 2))) m (aB 2 (nth k 2) l (aw m)))) fun _ l m=>bU (bE
 [0,1,0,4,0,16,60,127,255] [o,p,r,s,u,v,t,q,m]) <| aC d l [aD 2 l (nth k 2)]) fun k=>ax i ( ai (aj none j (ar (some []) j (aJ 0 (nth h 1)))) fun i l
 m=>ai (aj none l (ar (some (ag.aF i)) l (aM l i))) fun i l o=>ai (aj none l (ar (some []) l (aJ 1 (nth h 1)))) fun l p q=>ai (aj none p (ar (some
 (ag.aF l)) p (aM p l))) fun l p r=>ai (aj none p (ar (some []) p (aJ 1 (nth h 0)))) fun p s t=>ai (aj none s (ar (some (ag.aF p)) s (aM s p))) fun
 p s u=>ai (aj none s (aH c (.fn 119 [] []) [l,p] s)) fun l p s=>ai (aj none p (aH c (.fn 116 [] []) [i,l] p)) fun i l p=>ai (aj none l (dD (some (ag.aF
 (nth h 2))) (some (ag.aF (nth h 2))) l (aB 2 (nth h 2) i (aw l)))) fun _ i l=>bU (bE [0,1,0,4,0,16,60,127,255] [m,o,q,r,t,u,s,p,l]) <| aC d i [aD
 2 i (nth h 2)]) ( k [(nth h 0),(nth h 1),(nth h 2)] j)) fun h=>ax g ( ai (aj none f (ar (some []) f (aJ 0 a))) fun g i j=>ai (aj none i (ar (some (ag.aF
 g)) i (aM i g))) fun g i k=>ai (aj none i (ar (some []) i (aJ 1 a))) fun i l m=>ai (aj none l (ar (some (ag.aF i)) l (aM l i))) fun i l o=>ai (aj
 none l (ar (some []) l (aJ 1 b))) fun l p q=>ai (aj none p (ar (some (ag.aF l)) p (aM p l))) fun l p r=>ai (aj none p (aH c (.fn 117 [] []) [i,l] p))
 fun i l p=>ai (aj none l (aH c (.fn 116 [] []) [g,i] l)) fun g i l=>ai (aj none i (dD (some (ag.aF e)) (some (ag.aF e)) i (aB 2 e g (aw i)))) fun _
 g i=>bU (bE [0,1,0,4,0,16,60,127,255] [j,k,m,o,q,r,p,l,i]) <| aC d g [aD 2 g e]) ( h [a,b,e] f)
theorem E70 {O:aL} (h:O 70=none):cc O funcs types 70 (bR Tq):= .bR h (aG Tryz.func70 (by kernel_rfl)) fun _ _ _ _ _=>by kernel_rfl
def Ts (c:CF) (n:Nat) (a b:V) (d:S):bB:=
 af (aq d (bM 45 a (aw d))) fun a e=>af (aq e (bM 45 b (aw e))) fun b e=>ae (aJ 0 a) fun f=>ae (aD 2 e f) fun f=>ae (aD 4 e b) fun g=>af (au
 c true false (.fn 69 [] []) [g] e) fun e g=>af (au c true false (.fn 68 [] []) [f,e] g) fun e f=>ae (aJ 0 b) fun b=>ae (aD 2 f b) fun b=>ae (aD 4 f a) fun
 a=>af (au c true false (.fn 69 [] []) [a] f) fun a f=>af (au c true false (.fn 68 [] []) [b,a] f) fun a b=>af (au c true false (.fn 128 [] []) [e,a] b) fun
 a b=>aC d b [some a]
theorem E78 {O:aL} (h:O 78=none):cc O funcs types 78 (bR Ts):= .bR h (aG Tryz.func78 (by kernel_rfl)) fun _ _ _ _ _=>by kernel_rfl
def Tu (c:CF) (n:Nat) (a b:V) (d:S):bB:=
 af (aq d (bM 45 a (aw d))) fun a e=>af (aq e (bM 45 b (aw e))) fun b e=>af (aq e (aT [(.bool false),.ah,(.bool false),.ah] 45 (aw e))) fun e f=>
 ai (aj none f (ar (some []) f (aJ 0 a))) fun f g h=>ai (aj none g (ar (some (ag.aF f)) g (aD 2 g f))) fun f g i=>ai (aj none g (ar (some []) g (aJ
 0 b))) fun g j k=>ai (aj none j (ar (some (ag.aF g)) j (aD 2 j g))) fun g j l=>ai (aj none j (aH c (.fn 68 [] []) [f,g] j)) fun f g j=>ai (aj none
 g (ar (some (ag.aF a)) g (aD 4 g a))) fun a g m=>ai (aj none g (aH c (.fn 69 [] []) [a] g)) fun a g o=>ai (aj none g (ar (some (ag.aF b)) g (aD
 4 g b))) fun b g p=>ai (aj none g (aH c (.fn 69 [] []) [b] g)) fun b g q=>ai (aj none g (aH c (.fn 68 [] []) [a,b] g)) fun a b g=>ai (aj none b (aH c
 (.fn 66 [] []) [f,a] b)) fun a b f=>ai (aj none b (dD (some (ag.aF e)) (some (ag.aF e)) b (aB 4 e a (aw b)))) fun _ a b=>bU (bE [0,1,0,4,15,0,63,
 0,255,511,1023,2047] [h,i,k,l,j,m,o,p,q,g,f,b]) <| aC d a [aD 4 a e]
theorem E83 {O:aL} (h:O 83=none):cc O funcs types 83 (bR Tu):= .bR h (aG Tryz.func83 (by kernel_rfl)) fun _ _ _ _ _=>by kernel_rfl
def F88 (c:CF) (n:Nat) (a b:V) (d:S):bB:=
 af (aq d (bM 45 a (aw d))) fun a e=>af (aq e (bM 45 b (aw e))) fun b e=>ae (aJ 0 a) fun f=>ae (aD 2 e f) fun f=>ae (aJ 0 b) fun g=>ae (aD
 2 e g) fun g=>af (au c false false (.fn 133 [] []) [f,g] e) fun e f=>ae (ay e true (some (.fn 133 [] []))) fun g=>ae (ay e true (aJ 2 a)) fun a=>ae (ay
 e true (aD 2 f a)) fun a=>ae (ay e true (aJ 2 b)) fun b=>ae (ay e true (aD 2 f b)) fun b=>af (fT e true (au c false false g [a,b] f) f) fun a b=>ae
 (bn e a (.bool false)) fun a=>aC d b [some a]
theorem E88 {O:aL} (h:O 88=none):cc O funcs types 88 (bR F88):= .bR h (aG Tryz.func88 (by kernel_rfl)) fun _ _ _ _ _=>by kernel_rfl
def F90 (c:CF) (n:Nat) (a b d:V) (e:S):bB:=
 af (aq e (bM 28 a (aw e))) fun a f=>af (aq f (aT [(.bool false),.ah,(.bool false),.ah,(.bool false),.ah,(.bool false),.ah] 47 (aw f))) fun f g=>ae
 (aD 4 g a) fun h=>af (au c false true (.fn 143 [] []) [h,b,d] g) fun b g=>ae (cV 0 b) fun h=>ae (cV 1 b) fun i=>ae (cV 2 b) fun b=>af (aq g (aT
 [(.bool false),.ah,(.bool false),.ah] 45 (aw g))) fun g j=>af (aq j (aT [(.bool false),.ah,(.bool false),.ah] 45 (aw j))) fun j k=>af (aq k (aT [(.bool
 false),.ah,(.bool false),.ah] 45 (aw k))) fun k l=>af (aq l (aB 4 g h (aw l))) fun _ h=>af (aq h (aB 4 j i (aw h))) fun _ h=>af (aq h (aB 4 k b
 (aw h))) fun _ b=>ai (aj none b (ar (some []) b (aJ 1 a))) fun a b h=>ai (aj none b (ar (some (ag.aF a)) b (aM b a))) fun a b i=>ai (aj none b (bk
 b d)) fun b d k=>ai (aj none d (ar (some []) d (ck 18 a b))) fun a b d=>ai (aj none b (ar (some []) b (aJ 1 a))) fun a b l=>ai (aj none b (ar (some (ag.aF
 a)) b (aD 8 b a))) fun a b m=>ai (aj none b (ar (some (ag.aF g)) b (aD 4 b g))) fun b g o=>ai (aj none g (ar (some (ag.aF j)) g (aD 4 g j))) fun g
 j p=>ai (aj none j (ar (some []) j (aI [(.bool false),.ah,(.bool false),.ah,(.bool false),.ah,(.bool false),.ah] [(0,4,b),(4,4,g)]))) fun b g j=>ai
 (aj none g (aH c (.fn 144 [] []) [a,b] g)) fun a b g=>ai (aj none b (dD (some (ag.aF f)) (some (ag.aF f)) b (aB 8 f a (aw b)))) fun _ a b=>bU (bE
 [0,1,0,7,15,31,0,0,192,511,1023] [h,i,k,d,l,m,o,p,j,g,b]) <| aC e a [aD 8 a f]
theorem E90 {O:aL} (h:O 90=none):cc O funcs types 90 (pR F90):= .pR h (aG Tryz.func90 (by kernel_rfl)) fun _ _ _ _ _ _=>by kernel_rfl
def F93 (c:CF) (n:Nat) (a b:V) (d:S):bB:=
 af (aq d (bM 108 a (aw d))) fun a e=>af (aq e (bM 108 b (aw e))) fun b e=>ae (fh types 204 (.ptr 0 0) none none none) fun f=>ae (vB 146 [] [a,b])
 fun a=>af (au c false false (.fn 145 [] []) [f,a] e) fun a b=>ae (un .not a) fun a=>aC d b [some a]
theorem E93 {O:aL} (h:O 93=none):cc O funcs types 93 (bR F93):= .bR h (aG Tryz.func93 (by kernel_rfl)) fun _ _ _ _ _=>by kernel_rfl
def VJ (c:CF) (n:Nat) (a:V) (b:S):bB:=
 ae (mK .u64 a) fun d=>ae (an .lss y3 a (.int .i64 0)) fun a=>jn (fun e f=>jn (fun g h=>ae (an .add y3 (.int .i64 128) (nth g 0)) fun i=>ae (mK .u8 i) fun
 i=>ae (an .xor (Tr.get types 5) i (nth g 2)) fun i=>af (aq h (dL 1 1 5 (bz 1 [(.int .u8 0)]) [(0,1,i)] (aw h))) fun h i=>ae (an .sub y3 (nth g 0) (.int .i64
 1)) fun j=>jn (fun k l=>aC b l [some (nth k 0)]) fun k=>bJ n (fun l m o=>ae (an .geq y3 (nth m 0) (.int .i64 0)) fun p=>jn (fun q r=>jn (fun s t=>ae (an .sub
 y3 (nth s 0) (.int .i64 1)) fun u=>l [u,(nth s 1),(nth s 2),(nth s 3)] t) fun l=>ae (an .mul y3 (.int .i64 8) (nth q 1)) fun s=>ae (an .shr (Tr.get types 226) (nth
 q 2) s) fun s=>ae (mK .u8 s) fun s=>ae (an .xor (Tr.get types 5) s (nth q 3)) fun s=>af (aq r (dL 1 1 5 (bz 1 [(.int .u8 0)]) [(0,1,s)] (aw r))) fun r s=>
 af (aq s (bT iE 5 (nth q 0) r (aw s))) fun r s=>l [(nth q 1),(nth q 2),(nth q 3),r] s) fun l=>ax p ( l [(nth m 3),(nth m 0),(nth m 1),(nth m 2)] o) ( k [(nth
 m 3)] o)) [j,(nth g 1),(nth g 2),h] i) fun g=>bJ n (fun h i j=>ae (an .gtr y3 (nth i 0) (.int .i64 0)) fun k=>jn (fun l m=>jn (fun o p=>h [(nth o 0),(nth o 1),
 (nth o 2)] p) fun h=>ae (an .sub y3 (nth l 0) (.int .i64 1)) fun o=>ae (an .mul y3 (.int .i64 8) o) fun o=>ae (an .shr (Tr.get types 226) (nth l 1) o) fun o=>
 ae (an .gtr (Tr.get types 226) o (.int .u64 0)) fun o=>jn (fun p q=>ae (an .sub y3 (nth p 0) (.int .i64 1)) fun r=>h [r,(nth p 1),(nth p 2)] q) fun h=>ax o (
 g [(nth l 0),(nth l 1),(nth l 2)] m) ( h [(nth l 0),(nth l 1),(nth l 2)] m)) fun h=>ax k ( h [(nth i 0),(nth i 1),(nth i 2)] j) ( g [(nth i 0),(nth i 1),(nth i 2)] j))
 [(.int .i64 8),(nth e 0),(nth e 1)] f) fun e=>ax a ( ae (un .xor d) fun a=>e [a,(.int .u8 255)] b) ( e [d,(.int .u8 0)] b)
theorem E98 {O:aL} (h:O 98=none):cc O funcs types 98 (cR VJ):= .cR h (aG Tryz.func98 (by kernel_rfl)) fun _ _ _ _=>by kernel_rfl
def Jn (c:CF) (n:Nat) (a b:V) (d:S):bB:=
 af (au c false false (.fn 155 [] []) [a] d) fun e f=>ae (cV 0 e) fun g=>ae (cV 1 e) fun h=>ae (cV 2 e) fun e=>jn (fun i j=>aC d j [some (nth i 0),some
 (nth i 1),some (nth i 2)]) fun d=>ae (an .neq (Tr.get types 58) e (.int .i64 0)) fun i=>jn (fun j k=>d [(nth j 0),(nth j 1),(nth j 2)] k) fun d=>ax i ( d [g,h,e]
 f) ( ae (an .lss y3 g (.int .i64 0)) fun i=>jn (fun j k=>d [(nth j 0),(nth j 1),(nth j 2)] k) fun d=>ax i ( d [g,h,(.int .i64 2)] f) ( ae (aN a) fun a=>ae
 (an .sub y3 a h) fun a=>ae (an .quo y3 a b) fun a=>ae (an .gtr y3 g a) fun a=>jn (fun b i=>d [(nth b 0),(nth b 1),(nth b 2)] i) fun b=>ax a ( b [g,h,(.int .i64
 3)] f) ( b [g,h,e] f)))
theorem UP {O:aL} (h:O 103=none):cc O funcs types 103 (bR Jn):= .bR h (aG Tryz.func103 (by kernel_rfl)) fun _ _ _ _ _=>by kernel_rfl
def Ga (c:CF) (n:Nat) (a b:V) (d:S):bB:=
 af (aq d (df types 70 9 a (aw d))) fun a e=>af (aq e (df types 70 9 b (aw e))) fun b e=>ae (an .eql (Tr.get types 9) a b) fun a=>aC d e [some a]
theorem Nu {O:aL} (h:O 107=none):cc O funcs types 107 (bR Ga):= .bR h (aG Tryz.func107 (by kernel_rfl)) fun _ _ _ _ _=>by kernel_rfl
def Gf (c:CF) (n:Nat) (a b:V) (d:S):bB:=
 af (aq d (bM 43 a (aw d))) fun a e=>af (aq e (bM 43 b (aw e))) fun b e=>af (aq e (aT [(.bool false),.ah] 43 (aw e))) fun e f=>af (aq f (aT [(.bool
 false),.ah] 43 (aw f))) fun f g=>ae (aJ 1 b) fun h=>ae (aM g h) fun h=>ae (aN h) fun h=>ae (an .eql y3 h (.int .i64 0)) fun h=>jn (fun i j=>ae (aJ
 1 (nth i 0)) fun k=>ae (aM j k) fun k=>ae (aJ 1 (nth i 1)) fun l=>ae (aM j l) fun l=>af (au c false false (.fn 162 [] []) [k,l] j) fun j k=>ae (cV 0
 j) fun l=>ae (cV 1 j) fun j=>ae (aJ 0 (nth i 0)) fun m=>ae (aM k m) fun m=>ae (aJ 0 (nth i 1)) fun o=>ae (aM k o) fun o=>ae (an .neq (Tr.get types
 4) m o) fun m=>af (au c false true (.fn 116 [] []) [m,l] k) fun k l=>af (aq l (aT [(.bool false),.ah] 43 (aw l))) fun l m=>af (aq m (aB 2 l k (aw m)))
 fun _ k=>af (au c false true (.fn 116 [] []) [(.bool false),j] k) fun j k=>af (aq k (aT [(.bool false),.ah] 43 (aw k))) fun k m=>af (aq m (aB 2 k j (aw
 m))) fun _ j=>ae (aJ 0 (nth i 0)) fun m=>ae (aM j m) fun m=>ae (ay m true (aJ 1 k)) fun o=>ae (ay m true (aM j o)) fun o=>ae (ay m true (aN o))
 fun o=>ae (ay m true (an .gtr y3 o (.int .i64 0))) fun o=>ae (bn m o (.bool false)) fun m=>jn (fun o p=>ai (aj none p (ar (some (ag.aF (nth o 0)))
 p (aD 2 p (nth o 0)))) fun p q r=>ai (aj none q (ar (some (ag.aF (nth o 1))) q (aD 2 q (nth o 1)))) fun q s t=>ai (aj none s (dD (some (ag.aF (nth o
 2))) (some (ag.aF (nth o 2))) s (aB 2 (nth o 2) p (aw s)))) fun _ p s=>ai (aj none p (dD (some (ag.aF (nth o 3))) (some (ag.aF (nth o 3))) p (aB 2 (nth
 o 3) q (aw p)))) fun _ p q=>bU (bE [0,0,1,7] [r,t,s,q]) <| aC d p [aD 2 p (nth o 2),aD 2 p (nth o 3)]) fun o=>ax m ( ai (aj none j (ar (some (ag.aF
 l)) j (aD 2 j l))) fun m p q=>ai (aj none p (ar (some []) p (aJ 0 (nth i 0)))) fun p r s=>ai (aj none r (ar (some (ag.aF p)) r (aM r p))) fun p r t=>ai
 (aj none r (ar (some []) r (aJ 0 (nth i 1)))) fun r u v=>ai (aj none u (ar (some (ag.aF r)) u (aM u r))) fun r u w=>ai (aj none u (ar (some []) u (an .neq
 (Tr.get types 4) p r))) fun p r u=>ai (aj none r (dD (some []) (some []) r (dL 1 1 3 (bz 1 [(.int .i64 0)]) [(0,1,(.int .i64 1))] (aw r)))) fun r x y=>ai (aj none
 x (aH c (.fn 116 [] []) [p,r] x)) fun p r x=>ai (aj none r (aH c (.fn 70 [] []) [m,p] r)) fun m p r=>ai (aj none p (dD (some (ag.aF l)) (some (ag.aF
 l)) p (aB 2 l m (aw p)))) fun _ m p=>bU (bE [0,0,2,0,8,30,0,126,255,511] [q,s,t,v,w,u,y,x,r,p]) <| ae (aJ 1 (nth i 1)) fun p=>ae (aM m p) fun
 p=>ae (aJ 1 k) fun q=>ae (aM m q) fun q=>af (au c false true (.fn 119 [] []) [p,q] m) fun m p=>af (au c false true (.fn 116 [] []) [(.bool false),m] p)
 fun m p=>af (aq p (aB 2 k m (aw p))) fun _ m=>o [l,k,(nth i 2),(nth i 3)] m) ( o [l,k,(nth i 2),(nth i 3)] j)) fun i=>ax h ( ae (aI [(.bool false),.ah]
 []) fun h=>ae (aI [(.bool false),.ah] []) fun j=>af (aq g (aB 2 e h (aw g))) fun _ h=>af (aq h (aB 2 f j (aw h))) fun _ h=>aC d h [aD 2 h e,aD
 2 h f]) ( i [a,b,e,f] g)
theorem Nz {O:aL} (h:O 113=none):cc O funcs types 113 (bR Gf):= .bR h (aG Tryz.func113 (by kernel_rfl)) fun _ _ _ _ _=>by kernel_rfl
def Gg (c:CF) (n:Nat) (a:V) (b:S):bB:=
 af (aq b (bM 43 a (aw b))) fun a d=>af (aq d (aT [(.bool false),.ah] 43 (aw d))) fun d e=>ae (aJ 0 a) fun f=>ae (aM e f) fun f=>ae (un .not f)
 fun f=>ae (aJ 1 a) fun a=>ae (aM e a) fun a=>af (au c false true (.fn 116 [] []) [f,a] e) fun a e=>af (aq e (aB 2 d a (aw e))) fun _ a=>aC b a [aD
 2 a d]
theorem NA {O:aL} (h:O 114=none):cc O funcs types 114 (cR Gg):= .cR h (aG Tryz.func114 (by kernel_rfl)) fun _ _ _ _=>by kernel_rfl
def Gi (c:CF) (n:Nat) (a b:V) (d:S):bB:=
 af (aq d (aT [(.bool false),.ah] 43 (aw d))) fun e f=>ae (aN b) fun g=>jn (fun h i=>ae (an .eql y3 (nth h 2) (.int .i64 0)) fun j=>jn (fun k l=>ae
 (gE 1 (nth k 1) none (some (nth k 2)) none) fun m=>ae (aI [(.bool false),.ah] [(0,1,(nth k 0)),(1,1,m)]) fun m=>af (aq l (aB 2 (nth k 3) m (aw l))) fun _
 l=>aC d l [aD 2 l (nth k 3)]) fun k=>ax j ( ae (aI [(.bool false),.ah] []) fun j=>af (aq i (aB 2 (nth h 3) j (aw i))) fun _ j=>aC d j [aD 2 j (nth
 h 3)]) ( k [(nth h 0),(nth h 1),(nth h 2),(nth h 3)] i)) fun d=>bJ n (fun h i j=>ae (an .gtr y3 (nth i 2) (.int .i64 0)) fun k=>ae (ay k true (some (nth i 1)))
 fun l=>ae (ay k true (some (nth i 2))) fun m=>ae (ay k true (an .sub y3 m (.int .i64 1))) fun m=>ae (ay k true (EB true [m,(.int .i64 0)])) fun m=>ae (ay
 k true (ck 1 l m)) fun l=>ae (ay k true (aM j l)) fun l=>ae (ay k true (an .eql y3 l (.int .i64 0))) fun l=>ae (bn k l (.bool false)) fun k=>jn (fun l m
 =>jn (fun o p=>h [(nth o 0),(nth o 1),(nth o 2),(nth o 3)] p) fun h=>ae (an .sub y3 (nth l 0) (.int .i64 1)) fun o=>h [(nth l 1),(nth l 2),o,(nth l 3)] m) fun h=>
 ax k ( h [(nth i 2),(nth i 0),(nth i 1),(nth i 3)] j) ( d [(nth i 0),(nth i 1),(nth i 2),(nth i 3)] j)) [a,b,g,e] f
theorem NC {O:aL} (h:O 116=none):cc O funcs types 116 (bR Gi):= .bR h (aG Tryz.func116 (by kernel_rfl)) fun _ _ _ _ _=>by kernel_rfl
def Gj (c:CF) (n:Nat) (a b:V) (d:S):bB:=
 jn (fun e f=>aC d f [some (nth e 0)]) fun e=>bJ n (fun f g h=>ae (aN (nth g 2)) fun i=>ae (an .lss y3 (nth g 1) i) fun i=>ae (ay i false (some (nth g
 1))) fun j=>ae (ay i false (some (nth g 3))) fun k=>ae (ay i false (aN k)) fun k=>ae (ay i false (an .lss y3 j k)) fun j=>ae (bn i (.bool true) j) fun
 i=>ae (ay i false (some (nth g 0))) fun j=>ae (ay i false (an .gtr y3 j (.int .i64 0))) fun j=>ae (bn i (.bool true) j) fun i=>jn (fun j k=>jn (fun l m=>
 ae (an .add y3 (nth l 0) (.int .i64 1)) fun o=>f [(nth l 1),o,(nth l 2),(nth l 3),(nth l 4)] m) fun f=>af (au c false false (.fn 163 [] []) [(nth j 3),(nth j 2)]
 k) fun k l=>af (au c false false (.fn 163 [] []) [(nth j 4),(nth j 2)] l) fun l m=>ae (an .add y3 k l) fun k=>ae (an .add y3 k (nth j 0)) fun k=>ae (an .rem
 y3 k (.int .i64 1000000000)) fun l=>af (aq m (dL 1 1 3 (bz 1 [(.int .i64 0)]) [(0,1,l)] (aw m))) fun l m=>af (aq m (bT iV 3 (nth j 1) l (aw m))) fun l m=>
 ae (an .quo y3 k (.int .i64 1000000000)) fun k=>f [(nth j 2),k,(nth j 3),(nth j 4),l] m) fun f=>ax i ( f [(nth g 0),(nth g 4),(nth g 1),(nth g 2),(nth g 3)] h) (
 e [(nth g 4)] h)) [(.int .i64 0),(.int .i64 0),a,b,.ah] d
theorem ND {O:aL} (h:O 117=none):cc O funcs types 117 (bR Gj):= .bR h (aG Tryz.func117 (by kernel_rfl)) fun _ _ _ _ _=>by kernel_rfl
def Gp (c:CF) (n:Nat) (a b:V) (d:S):bB:=
 af (aq d (bM 43 a (aw d))) fun a e=>af (aq e (bM 43 b (aw e))) fun b e=>ae (aJ 0 a) fun f=>ae (aM e f) fun f=>ae (aJ 0 b) fun g=>ae (aM e
 g) fun g=>ae (an .neq (Tr.get types 4) f g) fun f=>jn (fun g h=>ae (aJ 0 (nth g 0)) fun i=>ae (aM h i) fun i=>jn (fun j k=>ae (aJ 1 (nth j 0)) fun l=>
 ae (aM k l) fun l=>ae (aJ 1 (nth j 1)) fun j=>ae (aM k j) fun j=>af (au c false false (.fn 118 [] []) [l,j] k) fun j k=>aC d k [some j]) fun j=>ax
 i ( ae (aJ 1 (nth g 1)) fun i=>ae (aM h i) fun i=>ae (aJ 1 (nth g 0)) fun k=>ae (aM h k) fun k=>af (au c false false (.fn 118 [] []) [i,k] h) fun i k
 =>aC d k [some i]) ( j [(nth g 0),(nth g 1)] h)) fun g=>ax f ( ae (aJ 0 a) fun f=>ae (aM e f) fun f=>jn (fun _ h=>aC d h [some (.int .i64 1)]) fun h=>ax
 f ( aC d e [some (.int .i64 (-1))]) ( h [] e)) ( g [a,b] e)
theorem NI {O:aL} (h:O 128=none):cc O funcs types 128 (bR Gp):= .bR h (aG Tryz.func128 (by kernel_rfl)) fun _ _ _ _ _=>by kernel_rfl
def Oa (c:CF) (n:Nat) (a b d:V) (e:S):bB:=
 af (aq e (bM 82 a (aw e))) fun a f=>af (aq f (bM 82 b (aw f))) fun b f=>ae (aJ 1 d) fun g=>ae (aM f g) fun g=>ae (aD 2 f a) fun a=>af (au
 c true false g [a] f) fun a f=>ae (aJ 1 d) fun d=>ae (aM f d) fun d=>ae (aD 2 f b) fun b=>af (au c true false d [b] f) fun b d=>af (au c true false
 (.fn 137 [] []) [a,b] d) fun a b=>aC e b [some a]
theorem U0 {O:aL} (h:O 139=none):cc O funcs types 139 (pR Oa):= .pR h (aG Tryz.func139 (by kernel_rfl)) fun _ _ _ _ _ _=>by kernel_rfl
def Ob (c:CF) (n:Nat) (a b d e:V) (f:S):bB:=
 af (aq f (bM 45 a (aw f))) fun a g=>af (aq g (bM 45 b (aw g))) fun b g=>af (aq g (bM 45 d (aw g))) fun d g=>af (aq g (aT [(.bool false),.ah,
 (.bool false),.ah] 45 (aw g))) fun g h=>af (aq h (aT [(.bool false),.ah,(.bool false),.ah] 45 (aw h))) fun h i=>ae (EB true [e,(.int .i64 0)]) fun e=>af
 (au c false true (.fn 142 [] []) [e,(.int .i64 1)] i) fun e i=>af (aq i (aT [(.bool false),.ah,(.bool false),.ah] 45 (aw i))) fun i j=>af (aq j (aB 4 i
 e (aw j))) fun _ e=>ae (aD 4 e a) fun j=>ae (aD 4 e b) fun k=>ae (aD 4 e d) fun l=>ae (aD 4 e i) fun m=>af (au c false false (.fn 174 [] []) [j,k,
 l,m] e) fun e j=>af (aq j (dL 4 1 45 (bz 1 [(.bool false),.ah,(.bool false),.ah]) [(0,4,e)] (aw j))) fun e j=>ae (aD 4 j b) fun k=>ae (aD 4 j d) fun
 l=>af (au c false true (.fn 176 [] []) [k,l] j) fun j k=>af (au c false true (.fn 175 [] []) [j] k) fun j k=>af (aq k (aT [(.bool false),.ah,(.bool false),.ah]
 45 (aw k))) fun k l=>af (aq l (aB 4 k j (aw l))) fun _ j=>ae (aD 4 j d) fun l=>af (au c false false (.fn 177 [] []) [l] j) fun j l=>ae (an .neq y3 j
 (.int .i64 0)) fun j=>ae (ay j true (aD 4 l k)) fun m=>af (fT j true (au c false false (.fn 177 [] []) [m] l) l) fun l m=>ae (ay j true (an .gtr y3 l (.int .i64
 0))) fun l=>ae (bn j l (.bool false)) fun j=>ae (ay j true (aD 4 m k)) fun l=>ae (ay j true (aD 4 m i)) fun i=>af (fT j true (au c false false (.fn
 147 [] []) [l,i] m) m) fun i l=>ae (ay j true (an .lss y3 i (.int .i64 0))) fun i=>ae (bn j i (.bool false)) fun i=>jn (fun j m=>ae (aD 4 m (nth j 0)) fun
 o=>af (au c false true (.fn 132 [] []) [o,(nth j 1)] m) fun m o=>ae (cV 0 m) fun p=>ae (cV 1 m) fun m=>af (aq o (aB 4 (nth j 2) p (aw o))) fun _ o=>
 af (aq o (aB 4 (nth j 3) m (aw o))) fun _ m=>aC f m [aD 4 m (nth j 2),aD 4 m (nth j 3)]) fun f=>ax i ( ae (aD 4 l a) fun i=>ae (aD 4 l b) fun b=>ae
 (aD 4 l d) fun d=>ae (aD 4 l k) fun j=>af (au c false true (.fn 174 [] []) [i,b,d,j] l) fun b d=>af (aq d (dL 4 1 45 (bz 1 [(.bool false),.ah,(.bool
 false),.ah]) [(0,4,b)] (aw d))) fun b d=>af (aq d (bT Fx 45 e b (aw d))) fun b d=>f [a,b,g,h] d) ( f [a,e,g,h] l)
theorem U1 {O:aL} (h:O 140=none):cc O funcs types 140 (Ih Ob):= .Ih h (aG Tryz.func140 (by kernel_rfl)) fun _ _ _ _ _ _ _=>by kernel_rfl
def Oe (c:CF) (n:Nat) (a b d:V) (e:S):bB:=
 af (aq e (bM 28 a (aw e))) fun a f=>af (aq f (aT [(.bool false),.ah,(.bool false),.ah] 45 (aw f))) fun f g=>af (aq g (aT [(.bool false),.ah,(.bool
 false),.ah] 45 (aw g))) fun g h=>af (aq h (aT [(.bool false),.ah,(.bool false),.ah] 45 (aw h))) fun h i=>ae (aJ 1 a) fun a=>ae (aM i a) fun a=>ae
 (ck 18 a d) fun a=>ae (aJ 9 a) fun a=>ae (aM i a) fun a=>ae (aN a) fun d=>jn (fun j k=>ai (aj none k (ar (some (ag.aF (nth j 0))) k (aD 4 k (nth
 j 0)))) fun k l m=>ai (aj none l (ar (some (ag.aF (nth j 1))) l (aD 4 l (nth j 1)))) fun l o p=>ai (aj none o (ar (some (ag.aF (nth j 2))) o (aD 4
 o (nth j 2)))) fun o q r=>ai (aj none q (dD (some (ag.aF (nth j 0))) (some (ag.aF (nth j 0))) q (aB 4 (nth j 0) k (aw q)))) fun _ k q=>ai (aj none k (dD
 (some (ag.aF (nth j 1))) (some (ag.aF (nth j 1))) k (aB 4 (nth j 1) l (aw k)))) fun _ k l=>ai (aj none k (dD (some (ag.aF (nth j 2))) (some (ag.aF
 (nth j 2))) k (aB 4 (nth j 2) o (aw k)))) fun _ k o=>bU (bE [0,0,0,1,11,31] [m,p,r,q,l,o]) <| aC e k [aD 4 k (nth j 0),aD 4 k (nth j 1),aD 4 k (nth j 2)])
 fun e=>bJ n (fun j k l=>ae (an .lss y3 (nth k 0) (nth k 1)) fun m=>jn (fun o p=>jn (fun q r=>ae (an .add y3 (nth q 0) (.int .i64 1)) fun s=>j [s,(nth q 1),
 (nth q 2),(nth q 3),(nth q 4),(nth q 5),(nth q 6)] r) fun j=>ae (ck 13 (nth o 2) (nth o 0)) fun q=>ae (aD 13 p q) fun q=>af (aq p (aT [(.int .i64 0),(.bool
 false),.ah,(.bool false),.ah,(.bool false),.ah,(.bool false),.ah,(.bool false),.ah,(.bool false),.ah] 132 (aw p))) fun p r=>af (aq r (aB 13 p q (aw
 r))) fun _ q=>ai (aj none q (ar (some (ag.aF (nth o 4))) q (aD 4 q (nth o 4)))) fun q r s=>ai (aj none r (ar (some []) r (aJ 1 p))) fun r t u=>ai (aj
 none t (ar (some (ag.aF r)) t (aD 4 t r))) fun r t v=>ai (aj none t (bk t (nth o 3))) fun t w x=>ai (aj none w (ar (some []) w (aJ 0 p))) fun w y z=>
 ai (aj none y (ar (some (ag.aF w)) y (aM y w))) fun w y A=>ai (aj none y (ar (some []) y (ck 4 t w))) fun t w y=>ai (aj none w (ar (some (ag.aF
 t)) w (aD 4 w t))) fun t w B=>ai (aj none w (aH c (.fn 183 [] []) [r,t] w)) fun r t w=>ai (aj none t (aH c (.fn 141 [] []) [q,r] t)) fun q r t=>ai (aj
 none r (ar (some (ag.aF (nth o 5))) r (aD 4 r (nth o 5)))) fun r D E=>ai (aj none D (ar (some []) D (aJ 5 p))) fun D F G=>ai (aj none F (ar (some (ag.aF
 D)) F (aD 4 F D))) fun D F H=>ai (aj none F (bk F (nth o 3))) fun F I J=>ai (aj none I (ar (some []) I (aJ 0 p))) fun I K L=>ai (aj none K (ar (some
 (ag.aF I)) K (aM K I))) fun I K M=>ai (aj none K (ar (some []) K (ck 4 F I))) fun F I K=>ai (aj none I (ar (some (ag.aF F)) I (aD 4 I F))) fun F I
 N=>ai (aj none I (aH c (.fn 183 [] []) [D,F] I)) fun D F I=>ai (aj none F (aH c (.fn 141 [] []) [r,D] F)) fun r D F=>ai (aj none D (ar (some (ag.aF
 (nth o 6))) D (aD 4 D (nth o 6)))) fun D O P=>ai (aj none O (ar (some []) O (aJ 9 p))) fun O Q R=>ai (aj none Q (ar (some (ag.aF O)) Q (aD 4 Q O))) fun
 O Q S=>ai (aj none Q (bk Q (nth o 3))) fun Q T U=>ai (aj none T (ar (some []) T (aJ 0 p))) fun p T V=>ai (aj none T (ar (some (ag.aF p)) T (aM
 T p))) fun p T W=>ai (aj none T (ar (some []) T (ck 4 Q p))) fun p Q T=>ai (aj none Q (ar (some (ag.aF p)) Q (aD 4 Q p))) fun p Q X=>ai (aj none Q
 (aH c (.fn 183 [] []) [O,p] Q)) fun p O Q=>ai (aj none O (aH c (.fn 141 [] []) [D,p] O)) fun p D O=>ai (aj none D (dD (some (ag.aF (nth o 4))) (some (ag.aF
 (nth o 4))) D (aB 4 (nth o 4) q (aw D)))) fun _ q D=>ai (aj none q (dD (some (ag.aF (nth o 5))) (some (ag.aF (nth o 5))) q (aB 4 (nth o 5) r (aw q)))) fun
 _ q r=>ai (aj none q (dD (some (ag.aF (nth o 6))) (some (ag.aF (nth o 6))) q (aB 4 (nth o 6) p (aw q)))) fun _ p q=>bU (bE [0,0,2,0,0,16,56,120,
 254,511,0,0,2048,0,0,16384,57344,122880,261119,524287,0,0,2097152,0,0,16777216,58720256,125829120,267386879,536870911,1073741823,2147483647,4294967295] [s,u,
 v,x,z,A,y,B,w,t,E,G,H,J,L,M,K,N,I,F,P,R,S,U,V,W,T,X,Q,O,D,r,q]) <| j [(nth o 0),(nth o 1),(nth o 2),(nth o 3),(nth o 4),(nth o 5),(nth o 6)] p) fun
 j=>ax m ( j [(nth k 0),(nth k 1),(nth k 2),(nth k 3),(nth k 4),(nth k 5),(nth k 6)] l) ( e [(nth k 4),(nth k 5),(nth k 6)] l)) [(.int .i64 0),d,a,b,f,g,h] i
theorem U4 {O:aL} (h:O 143=none):cc O funcs types 143 (pR Oe):= .pR h (aG Tryz.func143 (by kernel_rfl)) fun _ _ _ _ _ _=>by kernel_rfl
def Gt (c:CF) (n:Nat) (a:V) (b:S):bB:=
 af (aq b (bM 43 a (aw b))) fun a d=>ae (aJ 1 a) fun e=>ae (aM d e) fun e=>af (au c false false (.fn 190 [] []) [e,(.fn 191 [] [])] d) fun d e=>jn (fun
 f g=>ae (aJ 1 (nth f 0)) fun h=>ae (aM g h) fun h=>ae (aN h) fun h=>ae (an .eql y3 h (.int .i64 0)) fun h=>ae (ay h true (aJ 0 (nth f 0))) fun i=>
 ae (ay h true (aM g i)) fun i=>ae (ay h true (un .not i)) fun i=>ae (bn h i (.bool false)) fun h=>ae (ay h false (aJ 1 (nth f 0))) fun i=>ae (ay
 h false (aM g i)) fun i=>ae (ay h false (aN i)) fun i=>ae (ay h false (an .gtr y3 i (.int .i64 0))) fun i=>ae (ay h false (some i)) fun i=>ae (ay i
 true (aJ 1 (nth f 0))) fun j=>ae (ay i true (aM g j)) fun j=>ae (ay i true (aJ 1 (nth f 0))) fun f=>ae (ay i true (aM g f)) fun f=>ae (ay i true (aN
 f)) fun f=>ae (ay i true (an .sub y3 f (.int .i64 1))) fun f=>ae (ay i true (ck 1 j f)) fun f=>ae (ay i true (aM g f)) fun f=>ae (ay i true (an .neq
 y3 f (.int .i64 0))) fun f=>ae (ay h false (bn i f (.bool false))) fun f=>ae (bn h (.bool true) f) fun f=>aC b g [some f]) fun f=>ax d ( aC b e [some (.bool
 false)]) ( f [a] e)
theorem NM {O:aL} (h:O 157=none):cc O funcs types 157 (cR Gt):= .cR h (aG Tryz.func157 (by kernel_rfl)) fun _ _ _ _=>by kernel_rfl
def Gu (c:CF) (n:Nat) (a:V) (b:S):bB:=
 af (aq b (bM 43 a (aw b))) fun a d=>ae (aJ 0 a) fun e=>ae (aM d e) fun e=>ae (un .not e) fun e=>ae (ay e true (aJ 1 a)) fun f=>ae (ay e true
 (aM d f)) fun f=>ae (ay e true (aN f)) fun f=>ae (ay e true (an .eql y3 f (.int .i64 1))) fun f=>ae (bn e f (.bool false)) fun e=>ae (ay e true (aJ
 1 a)) fun a=>ae (ay e true (aM d a)) fun a=>ae (ay e true (ck 1 a (.int .i64 0))) fun a=>ae (ay e true (aM d a)) fun a=>ae (ay e true (an .eql y3 a
 (.int .i64 1))) fun a=>ae (bn e a (.bool false)) fun a=>aC b d [some a]
theorem NN {O:aL} (h:O 158=none):cc O funcs types 158 (cR Gu):= .cR h (aG Tryz.func158 (by kernel_rfl)) fun _ _ _ _=>by kernel_rfl
def Gw (c:CF) (n:Nat) (a:V) (b:S):bB:=
 af (aq b (bM 43 a (aw b))) fun a d=>jn (fun e f=>ae (aJ 1 (nth e 0)) fun g=>ae (aM f g) fun g=>ae (aN g) fun g=>ae (an .eql y3 g (.int .i64 0))
 fun g=>jn (fun h i=>ae (aJ 1 (nth h 0)) fun j=>ae (aM i j) fun j=>ae (aJ 1 (nth h 0)) fun h=>ae (aM i h) fun h=>ae (aN h) fun h=>ae (an .sub
 y3 h (.int .i64 1)) fun h=>ae (ck 1 j h) fun h=>ae (aM i h) fun h=>ae (an .neq y3 h (.int .i64 0)) fun h=>aC b i [some h]) fun h=>ax g ( ae (aJ 0 (nth
 e 0)) fun g=>ae (aM f g) fun g=>ae (un .not g) fun g=>aC b f [some g]) ( h [(nth e 0)] f)) fun e=>bJ n (fun f g h=>ae (aJ 1 (nth g 1)) fun i=>ae (aM
 h i) fun i=>ae (aN i) fun i=>ae (an .lss y3 (nth g 0) i) fun i=>jn (fun j k=>jn (fun l m=>ae (an .add y3 (nth l 0) (.int .i64 1)) fun o=>f [o,(nth l 1)]
 m) fun f=>ae (aJ 1 (nth j 1)) fun l=>ae (aM k l) fun l=>ae (ck 1 l (nth j 0)) fun l=>ae (aM k l) fun l=>ae (an .lss y3 l (.int .i64 0)) fun l=>ae
 (ay l false (aJ 1 (nth j 1))) fun m=>ae (ay l false (aM k m)) fun m=>ae (ay l false (some (nth j 0))) fun o=>ae (ay l false (ck 1 m o)) fun m=>ae (ay
 l false (aM k m)) fun m=>ae (ay l false (an .geq y3 m (.int .i64 1000000000))) fun m=>ae (bn l (.bool true) m) fun l=>jn (fun m o=>f [(nth m 0),(nth m 1)] o)
 fun f=>ax l ( aC b k [some (.bool false)]) ( f [(nth j 0),(nth j 1)] k)) fun b=>ax i ( b [(nth g 0),(nth g 1)] h) ( e [(nth g 1)] h)) [(.int .i64 0),a] d
theorem NP {O:aL} (h:O 160=none):cc O funcs types 160 (cR Gw):= .cR h (aG Tryz.func160 (by kernel_rfl)) fun _ _ _ _=>by kernel_rfl
def GA (c:CF) (n:Nat) (a:V) (b:S):bB:=
 ae (an .neq y3 a a) fun a=>aC b b [some a]
theorem NT {O:aL} (h:O 173=none):cc O funcs types 173 (cR GA):= .cR h (aG Tryz.func173 (by kernel_rfl)) fun _ _ _ _=>by kernel_rfl
def Ou (c:CF) (n:Nat) (a b:V) (d:S):bB:=
 af (aq d (bM 45 a (aw d))) fun a e=>af (aq e (bM 45 b (aw e))) fun b e=>af (aq e (aT [(.bool false),.ah,(.bool false),.ah] 45 (aw e))) fun e f=>
 ae (aJ 0 a) fun g=>ae (aJ 1 g) fun g=>ae (aM f g) fun g=>ae (aN g) fun g=>ae (an .eql y3 g (.int .i64 0)) fun g=>ae (ay g false (aJ 0 b)) fun h
 =>ae (ay g false (aJ 1 h)) fun h=>ae (ay g false (aM f h)) fun h=>ae (ay g false (aN h)) fun h=>ae (ay g false (an .eql y3 h (.int .i64 0))) fun h=>
 ae (bn g (.bool true) h) fun g=>jn (fun h i=>ae (aJ 2 (nth h 1)) fun j=>ae (aJ 1 j) fun j=>ae (aM i j) fun j=>ae (aN j) fun j=>ae (an .eql y3
 j (.int .i64 0)) fun j=>ae (ay j true (aJ 2 (nth h 0))) fun k=>ae (ay j true (aJ 1 k)) fun k=>ae (ay j true (aM i k)) fun k=>ae (ay j true (aN k)) fun
 k=>ae (ay j true (an .eql y3 k (.int .i64 0))) fun k=>ae (bn j k (.bool false)) fun j=>jn (fun k l=>ai (aj none l (ar (some []) l (aJ 0 (nth k 1)))) fun
 l m o=>ai (aj none m (ar (some (ag.aF l)) m (aD 2 m l))) fun l m p=>ai (aj none m (ar (some (ag.aF (nth k 0))) m (aD 4 m (nth k 0)))) fun m q r=>
 ai (aj none q (aH c (.fn 179 [] []) [m] q)) fun m q s=>ai (aj none q (aH c (.fn 180 [] []) [l,m] q)) fun l m q=>ai (aj none m (ar (some []) m (aJ 0 (nth
 k 0)))) fun m t u=>ai (aj none t (ar (some (ag.aF m)) t (aD 2 t m))) fun m t v=>ai (aj none t (ar (some (ag.aF (nth k 1))) t (aD 4 t (nth k 1)))) fun
 t w x=>ai (aj none w (aH c (.fn 179 [] []) [t] w)) fun t w y=>ai (aj none w (aH c (.fn 180 [] []) [m,t] w)) fun m t w=>ai (aj none t (dD (some []) (some
 []) t (aT [(.bool false),.ah,(.bool false),.ah] 45 (aw t)))) fun t z A=>ai (aj none z (dD (some []) (some []) z (aT [(.bool false),.ah,(.bool false),.ah]
 45 (aw z)))) fun z B D=>ai (aj none B (dD (some (ag.aF t)) (some (ag.aF t)) B (aB 4 t l (aw B)))) fun _ l B=>ai (aj none l (dD (some (ag.aF z))
 (some (ag.aF z)) l (aB 4 z m (aw l)))) fun _ l m=>bU (bE [0,1,0,4,15,0,32,0,159,511,0,0,4095,8191] [o,p,r,s,q,u,v,x,y,w,A,D,B,m]) <| ai
 (aj none l (ar (some []) l (aJ 0 t))) fun l m o=>ai (aj none m (ar (some (ag.aF l)) m (aD 2 m l))) fun l m p=>ai (aj none m (ar (some []) m (aJ 0 z)))
 fun m q r=>ai (aj none q (ar (some (ag.aF m)) q (aD 2 q m))) fun m q s=>ai (aj none q (aH c (.fn 181 [] []) [l,m] q)) fun l m q=>ai (aj none m (ar
 (some (ag.aF t)) m (aD 4 m t))) fun m t u=>ai (aj none t (aH c (.fn 179 [] []) [m] t)) fun m t v=>ai (aj none t (ar (some (ag.aF z)) t (aD 4 t z)))
 fun t w x=>ai (aj none w (aH c (.fn 179 [] []) [t] w)) fun t w y=>ai (aj none w (aH c (.fn 181 [] []) [m,t] w)) fun m t w=>ai (aj none t (aH c (.fn 198
 [] []) [l,m] t)) fun l m t=>ai (aj none m (dD (some (ag.aF (nth k 2))) (some (ag.aF (nth k 2))) m (aB 4 (nth k 2) l (aw m)))) fun _ l m=>bU (bE [0,1,
 0,4,15,0,63,0,255,511,1023,2047] [o,p,r,s,q,u,v,x,y,w,t,m]) <| aC d l [aD 4 l (nth k 2)]) fun k=>ax j ( ae (aJ 0 (nth h 1)) fun j=>ae (aD 2 i j)
 fun j=>ae (aJ 0 (nth h 0)) fun l=>ae (aD 2 i l) fun l=>af (au c false true (.fn 181 [] []) [j,l] i) fun j l=>ae (aI [(.bool false),.ah,(.bool false),.ah]
 [(0,2,j)]) fun j=>af (aq l (aB 4 (nth h 2) j (aw l))) fun _ j=>aC d j [aD 4 j (nth h 2)]) ( k [(nth h 0),(nth h 1),(nth h 2)] i)) fun h=>ax g ( ae (aI
 [(.bool false),.ah,(.bool false),.ah] []) fun g=>af (aq f (aB 4 e g (aw f))) fun _ g=>aC d g [aD 4 g e]) ( h [b,a,e] f)
theorem Vj {O:aL} (h:O 183=none):cc O funcs types 183 (bR Ou):= .bR h (aG Tryz.func183 (by kernel_rfl)) fun _ _ _ _ _=>by kernel_rfl
def Ov (c:CF) (n:Nat) (a b:V) (d:S):bB:=
 af (aq d (bM 43 a (aw d))) fun a e=>af (aq e (bM 43 b (aw e))) fun b e=>jn (fun f g=>ae (aJ 1 (nth f 0)) fun h=>ae (aM g h) fun h=>ae (aJ 1 (nth
 f 1)) fun f=>ae (aM g f) fun f=>af (au c false false (.fn 200 [] []) [h,f] g) fun f g=>aC d g [some f]) fun f=>ae (aJ 0 a) fun g=>ae (aM e g) fun g=>
 ae (aJ 0 b) fun h=>ae (aM e h) fun h=>ae (an .neq (Tr.get types 4) g h) fun g=>ae (ay g true (aJ 0 a)) fun h=>ae (ay g true (aM e h)) fun h=>ae
 (bn g h (.bool false)) fun g=>jn (fun h i=>f [(nth h 0),(nth h 1)] i) fun f=>ax g ( aC d e [some (.int .i64 (-1))]) ( ae (aJ 0 a) fun g=>ae (aM e g) fun g=>
 ae (aJ 0 b) fun h=>ae (aM e h) fun h=>ae (an .neq (Tr.get types 4) g h) fun g=>jn (fun h i=>f [(nth h 0),(nth h 1)] i) fun f=>ax g ( aC d e [some (.int .i64
 1)]) ( ae (aJ 0 a) fun g=>ae (aM e g) fun g=>jn (fun h i=>f [(nth h 0),(nth h 1)] i) fun f=>ax g ( ae (aJ 1 b) fun g=>ae (aM e g) fun g=>ae (aJ 1
 a) fun h=>ae (aM e h) fun h=>af (au c false false (.fn 200 [] []) [g,h] e) fun g h=>aC d h [some g]) ( f [a,b] e)))
theorem Vk {O:aL} (h:O 185=none):cc O funcs types 185 (bR Ov):= .bR h (aG Tryz.func185 (by kernel_rfl)) fun _ _ _ _ _=>by kernel_rfl
def GH (c:CF) (n:Nat) (a b:V) (d:S):bB:=
 af (aq d (aT [(.bool false),.ah] 43 (aw d))) fun e f=>af (aq f (aT [(.bool false),.ah] 43 (aw f))) fun f g=>af (au c false false (.fn 193 [] []) [a]
 g) fun g h=>ae (cV 0 g) fun i=>ae (cV 1 g) fun g=>jn (fun j k=>af (au c false false (.fn 200 [] []) [(nth j 0),(nth j 1)] k) fun k l=>ae (an .lss y3 k
 (.int .i64 0)) fun k=>jn (fun m o=>ae (aN (nth m 1)) fun p=>ae (an .eql y3 p (.int .i64 1)) fun p=>jn (fun q r=>af (au c false false (.fn 219 [] []) [(nth
 q 0),(nth q 1)] r) fun r s=>ae (cV 0 r) fun t=>ae (cV 1 r) fun r=>af (au c false true (.fn 192 [] []) [(.bool false),t] s) fun s t=>af (au c false true
 (.fn 192 [] []) [(.bool false),r] t) fun r t=>af (aq t (aB 2 (nth q 2) s (aw t))) fun _ s=>af (aq s (aB 2 (nth q 3) r (aw s))) fun _ r=>aC d r [aD 2 r (nth
 q 2),aD 2 r (nth q 3)]) fun q=>ax p ( ae (ck 1 (nth m 1) (.int .i64 0)) fun p=>ae (aM o p) fun p=>af (au c false false (.fn 218 [] []) [(nth m 0),p] o) fun
 p r=>ae (cV 0 p) fun s=>ae (cV 1 p) fun p=>af (au c false true (.fn 192 [] []) [(.bool false),s] r) fun r s=>ae (mK .u64 p) fun p=>af (au c false
 true (.fn 194 [] []) [(.bool false),p] s) fun p s=>af (aq s (aB 2 (nth m 2) r (aw s))) fun _ r=>af (aq r (aB 2 (nth m 3) p (aw r))) fun _ p=>aC d p [aD 2 p
 (nth m 2),aD 2 p (nth m 3)]) ( q [(nth m 0),(nth m 1),(nth m 2),(nth m 3)] o)) fun m=>ax k ( ae (aI [(.bool false),.ah] []) fun k=>af (au c false true (.fn
 192 [] []) [(.bool false),(nth j 0)] l) fun o p=>af (aq p (aB 2 (nth j 2) k (aw p))) fun _ k=>af (aq k (aB 2 (nth j 3) o (aw k))) fun _ k=>aC d k [aD 2 k (nth
 j 2),aD 2 k (nth j 3)]) ( m [(nth j 0),(nth j 1),(nth j 2),(nth j 3)] l)) fun j=>ax g ( af (au c false false (.fn 193 [] []) [b] h) fun g k=>ae (cV 0 g) fun l
 =>ae (cV 1 g) fun g=>jn (fun m o=>j [(nth m 0),(nth m 1),(nth m 2),(nth m 3)] o) fun m=>ax g ( ai (aj none k (bk k i)) fun g o p=>ai (aj none o (bk
 o l)) fun o q r=>ai (aj none q (ar (some []) q (an .quo y3 g o))) fun g o q=>ai (aj none o (ar (some (ag.aF g)) o (mK .u64 g))) fun g o s=>ai (aj
 none o (aH c (.fn 194 [] []) [(.bool false),g] o)) fun g o t=>ai (aj none o (bk o i)) fun i o u=>ai (aj none o (bk o l)) fun l o v=>ai (aj none o (ar
 (some []) o (an .rem y3 i l))) fun i l o=>ai (aj none l (ar (some (ag.aF i)) l (mK .u64 i))) fun i l w=>ai (aj none l (aH c (.fn 194 [] []) [(.bool false),
 i] l)) fun i l x=>ai (aj none l (dD (some (ag.aF e)) (some (ag.aF e)) l (aB 2 e g (aw l)))) fun _ g l=>ai (aj none g (dD (some (ag.aF f)) (some
 (ag.aF f)) g (aB 2 f i (aw g)))) fun _ g i=>bU (bE [0,0,3,7,15,0,0,96,224,511,1023,2047] [p,r,q,s,t,u,v,o,w,x,l,i]) <| aC d g [aD 2 g e,aD
 2 g f]) ( m [a,b,e,f] k)) ( j [a,b,e,f] h)
theorem NZ {O:aL} (h:O 195=none):cc O funcs types 195 (bR GH):= .bR h (aG Tryz.func195 (by kernel_rfl)) fun _ _ _ _ _=>by kernel_rfl
def Ox (c:CF) (n:Nat) (a:V) (b:S):bB:=
 af (aq b (bM 43 a (aw b))) fun a d=>af (aq d (aT [(.bool false),.ah] 43 (aw d))) fun d e=>ae (aJ 0 a) fun f=>ae (aM e f) fun f=>ae (un .not f)
 fun f=>ae (ay f true (aJ 1 a)) fun g=>ae (ay f true (aM e g)) fun g=>ae (ay f true (aN g)) fun g=>ae (ay f true (an .gtr y3 g (.int .i64 0))) fun g
 =>ae (bn f g (.bool false)) fun f=>ae (aJ 0 a) fun g=>af (aq e (aB 1 g f (aw e))) fun _ e=>ae (aD 2 e a) fun a=>af (aq e (aB 2 d a (aw e))) fun
 _ a=>aC b a [aD 2 a d]
theorem Vl {O:aL} (h:O 197=none):cc O funcs types 197 (cR Ox):= .cR h (aG Tryz.func197 (by kernel_rfl)) fun _ _ _ _=>by kernel_rfl
def Oy (c:CF) (n:Nat) (a b:V) (d:S):bB:=
 af (aq d (bM 43 a (aw d))) fun a e=>af (aq e (bM 43 b (aw e))) fun b e=>af (aq e (aT [(.bool false),.ah,(.bool false),.ah] 45 (aw e))) fun e f=>
 ae (aJ 0 b) fun g=>ae (aM f g) fun g=>jn (fun h i=>ae (aD 2 i (nth h 1)) fun j=>af (au c false false (.fn 158 [] []) [j] i) fun i j=>jn (fun k l=>ae
 (aD 2 l (nth k 0)) fun m=>ae (aD 2 l (nth k 1)) fun o=>ae (aI [(.bool false),.ah,(.bool false),.ah] [(0,2,m),(2,2,o)]) fun m=>af (aq l (aB 4 (nth
 k 2) m (aw l))) fun _ l=>aC d l [aD 4 l (nth k 2)]) fun k=>ax i ( ae (aD 2 j (nth h 0)) fun i=>ae (aI [(.bool false),.ah,(.bool false),.ah] [(0,2,i)])
 fun i=>af (aq j (aB 4 (nth h 2) i (aw j))) fun _ i=>aC d i [aD 4 i (nth h 2)]) ( k [(nth h 0),(nth h 1),(nth h 2)] j)) fun d=>ax g ( ai (aj none f (ar
 (some (ag.aF a)) f (aD 2 f a))) fun g h i=>ai (aj none h (aH c (.fn 197 [] []) [g] h)) fun g h j=>ai (aj none h (ar (some (ag.aF b)) h (aD 2 h b)))
 fun h k l=>ai (aj none k (aH c (.fn 197 [] []) [h] k)) fun h k m=>ai (aj none k (dD (some (ag.aF a)) (some (ag.aF a)) k (aB 2 a g (aw k)))) fun _ g
 k=>ai (aj none g (dD (some (ag.aF b)) (some (ag.aF b)) g (aB 2 b h (aw g)))) fun _ g h=>bU (bE [0,1,0,7,15,31] [i,j,l,m,k,h]) <| d [a,b,e]
 g) ( d [a,b,e] f)
theorem Vn {O:aL} (h:O 198=none):cc O funcs types 198 (bR Oy):= .bR h (aG Tryz.func198 (by kernel_rfl)) fun _ _ _ _ _=>by kernel_rfl
def GJ (c:CF) (n:Nat) (a b:V) (d:S):bB:=
 ae (aN a) fun e=>ae (aN b) fun f=>ae (an .neq y3 e f) fun e=>jn (fun f g=>ae (aN (nth f 0)) fun h=>ae (an .sub y3 h (.int .i64 1)) fun h=>jn (fun
 _ i=>aC d i [some (.int .i64 0)]) fun i=>bJ n (fun j k l=>ae (an .geq y3 (nth k 0) (.int .i64 0)) fun m=>jn (fun o p=>jn (fun q r=>ae (an .sub y3 (nth q 0)
 (.int .i64 1)) fun s=>j [s,(nth q 1),(nth q 2)] r) fun j=>ae (ck 1 (nth o 1) (nth o 0)) fun q=>ae (aM p q) fun q=>ae (ck 1 (nth o 2) (nth o 0)) fun r=>ae
 (aM p r) fun r=>ae (an .neq y3 q r) fun q=>jn (fun r s=>j [(nth r 0),(nth r 1),(nth r 2)] s) fun j=>ax q ( ae (ck 1 (nth o 1) (nth o 0)) fun q=>ae (aM p
 q) fun q=>ae (ck 1 (nth o 2) (nth o 0)) fun r=>ae (aM p r) fun r=>af (au c true false (.fn 137 [] []) [q,r] p) fun q r=>aC d r [some q]) ( j [(nth o 0),(nth
 o 1),(nth o 2)] p)) fun j=>ax m ( j [(nth k 0),(nth k 1),(nth k 2)] l) ( i [] l)) [h,(nth f 0),(nth f 1)] g) fun f=>ax e ( ae (aN a) fun e=>ae (aN b) fun
 g=>af (au c false true (.fn 137 [] []) [e,g] d) fun e g=>aC d g [some e]) ( f [a,b] d)
theorem N1 {O:aL} (h:O 200=none):cc O funcs types 200 (bR GJ):= .bR h (aG Tryz.func200 (by kernel_rfl)) fun _ _ _ _ _=>by kernel_rfl
def Jt (c:CF) (n:Nat) (a b:V) (d:S):bB:=
 ae (aN a) fun e=>af (aq d (bQ types 22 e e (aw d))) fun e f=>ae (aN a) fun g=>ae (an .sub y3 g (.int .i64 1)) fun g=>jn (fun h i=>aC d i [some
 (nth h 0),some (nth h 1)]) fun d=>bJ n (fun h i j=>ae (an .geq y3 (nth i 0) (.int .i64 0)) fun k=>jn (fun l m=>jn (fun o p=>ae (an .sub y3 (nth o 0) (.int .i64
 1)) fun q=>h [q,(nth o 1),(nth o 2),(nth o 3),(nth o 4)] p) fun h=>ae (an .mul y3 (nth l 0) (.int .i64 1000000000)) fun o=>ae (ck 1 (nth l 2) (nth l 1)) fun p=>
 ae (aM m p) fun p=>ae (an .add y3 o p) fun o=>ae (an .quo y3 o (nth l 3)) fun p=>ae (an .rem y3 o (nth l 3)) fun o=>ae (ck 1 (nth l 4) (nth l 1)) fun
 q=>af (aq m (aB 1 q p (aw m))) fun _ m=>h [(nth l 1),(nth l 2),(nth l 3),(nth l 4),o] m) fun h=>ax k ( h [(nth i 4),(nth i 0),(nth i 1),(nth i 2),(nth i 3)]
 j) ( d [(nth i 3),(nth i 4)] j)) [g,a,b,e,(.int .i64 0)] f
theorem Vs {O:aL} (h:O 218=none):cc O funcs types 218 (bR Jt):= .bR h (aG Tryz.func218 (by kernel_rfl)) fun _ _ _ _ _=>by kernel_rfl
def Ju (c:CF) (n:Nat) (a b:V) (d:S):bB:=
 ae (aN b) fun e=>ae (an .sub y3 e (.int .i64 1)) fun e=>ae (ck 1 b e) fun e=>ae (aM d e) fun e=>ae (an .add y3 e (.int .i64 1)) fun e=>ae (an .quo
 y3 (.int .i64 1000000000) e) fun e=>ai (aj none d (bk d a)) fun f g h=>ai (aj none g (bk g e)) fun g i j=>ai (aj none i (aH c (.fn 251 [] []) [f,g] i))
 fun f g i=>ai (aj none g (bk g b)) fun g k l=>ai (aj none k (bk k e)) fun k m o=>ai (aj none m (aH c (.fn 251 [] []) [g,k] m)) fun g k m=>ai (aj
 none k (bk k b)) fun k p q=>ai (aj none p (ar (some ([k].flatMap ag.aF)) p (aN k))) fun k p r=>ai (aj none p (ar (some []) p (gE 1 g none (some k) none)))
 fun g k p=>ai (aj none k (bk k f)) fun f k s=>ai (aj none k (bk k g)) fun g k t=>bU (bE [0,0,3,0,0,31,0,64,255,63,1023] [h,j,i,l,o,m,q,r,
 p,s,t]) <| ae (aN b) fun b=>ae (aN a) fun h=>ae (an .sub y3 h b) fun h=>ae (an .add y3 h (.int .i64 1)) fun h=>af (aq k (bQ types 22 h h (aw
 k))) fun h i=>ae (aN a) fun a=>ae (an .sub y3 a b) fun a=>jn (fun j k=>ae (gE 1 (nth j 0) none (some (nth j 1)) none) fun l=>af (au c false false (.fn
 218 [] []) [l,(nth j 2)] k) fun k l=>ae (cV 0 k) fun m=>ae (cV 1 k) fun _=>aC d l [some (nth j 3),some m]) fun d=>bJ n (fun j k l=>ae (an .geq y3 (nth
 k 0) (.int .i64 0)) fun m=>jn (fun o p=>jn (fun q r=>ae (an .sub y3 (nth q 0) (.int .i64 1)) fun s=>j [s,(nth q 1),(nth q 2),(nth q 3),(nth q 4),(nth q 5)] r) fun
 j=>ae (an .add y3 (nth o 0) (nth o 3)) fun q=>ae (ck 1 (nth o 2) q) fun q=>ae (aM p q) fun q=>ae (an .mul y3 q (.int .i64 1000000000)) fun q=>ae (an .add
 y3 (nth o 0) (nth o 3)) fun r=>ae (an .sub y3 r (.int .i64 1)) fun r=>ae (ck 1 (nth o 2) r) fun r=>ae (aM p r) fun r=>ae (an .add y3 q r) fun q=>ae (an .sub
 y3 (nth o 3) (.int .i64 1)) fun r=>ae (ck 1 (nth o 1) r) fun r=>ae (aM p r) fun r=>ae (an .quo y3 q r) fun r=>ae (an .sub y3 (nth o 3) (.int .i64 1)) fun s
 =>ae (ck 1 (nth o 1) s) fun s=>ae (aM p s) fun s=>ae (an .rem y3 q s) fun q=>jn (fun s t=>jn (fun u v=>ae (an .add y3 (nth u 2) (nth u 5)) fun w=>ae
 (ck 1 (nth u 4) w) fun x=>ae (aM v x) fun x=>ae (an .sub y3 x (nth u 0)) fun x=>ae (ck 1 (nth u 4) w) fun w=>af (aq v (aB 1 w x (aw v))) fun _ v=>ae
 (an .add y3 (nth u 2) (nth u 5)) fun w=>ae (ck 1 (nth u 4) w) fun w=>ae (aM v w) fun w=>ae (an .lss y3 w (.int .i64 0)) fun w=>jn (fun x y=>ae (ck 1 (nth
 x 6) (nth x 1)) fun z=>af (aq y (aB 1 z (nth x 0) (aw y))) fun _ y=>j [(nth x 1),(nth x 2),(nth x 3),(nth x 4),(nth x 5),(nth x 6)] y) fun j=>ax w ( ae (an .sub
 y3 (nth u 1) (.int .i64 1)) fun w=>jn (fun x y=>ae (an .add y3 (nth x 2) (nth x 5)) fun z=>ae (ck 1 (nth x 4) z) fun A=>ae (aM y A) fun A=>ae (an .add y3
 A (nth x 0)) fun A=>ae (ck 1 (nth x 4) z) fun z=>af (aq y (aB 1 z A (aw y))) fun _ y=>j [(nth x 1),(nth x 2),(nth x 3),(nth x 4),(nth x 5),(nth x 6),(nth x 7)]
 y) fun x=>bJ n (fun y z A=>ae (an .lss y3 (nth z 0) (nth z 1)) fun B=>jn (fun D E=>jn (fun F G=>ae (an .add y3 (nth F 0) (.int .i64 1)) fun H=>y [H,(nth F
 1),(nth F 2),(nth F 3),(nth F 4),(nth F 5),(nth F 6),(nth F 7),(nth F 8),(nth F 9)] G) fun y=>ae (an .add y3 (nth D 1) (nth D 4)) fun F=>ae (ck 1 (nth D 6) F) fun
 F=>ae (aM E F) fun F=>ae (ck 1 (nth D 5) (nth D 1)) fun G=>ae (aM E G) fun G=>ae (an .add y3 F G) fun F=>ae (an .add y3 F (nth D 0)) fun F=>ae (an .add
 y3 (nth D 1) (nth D 4)) fun G=>ae (an .rem y3 F (.int .i64 1000000000)) fun H=>ae (an .quo y3 F (.int .i64 1000000000)) fun F=>ae (ck 1 (nth D 6) G) fun G=>af
 (aq E (aB 1 G H (aw E))) fun _ E=>y [(nth D 1),(nth D 2),F,(nth D 3),(nth D 4),(nth D 5),(nth D 6),(nth D 7),(nth D 8),(nth D 9)] E) fun y=>ax B ( y [(nth z 2),
 (nth z 0),(nth z 1),(nth z 3),(nth z 4),(nth z 5),(nth z 6),(nth z 7),(nth z 8),(nth z 9)] A) ( x [(nth z 2),(nth z 3),(nth z 4),(nth z 5),(nth z 6),(nth z 7),(nth z 8),
 (nth z 9)] A)) [(.int .i64 0),(nth u 5),(.int .i64 0),w,(nth u 2),(nth u 3),(nth u 4),(nth u 5),(nth u 6),(nth u 7)] v) ( j [(nth u 1),(nth u 2),(nth u 3),(nth u 4),(nth
 u 5),(nth u 6),(nth u 7)] v)) fun j=>bJ n (fun u v w=>ae (an .lss y3 (nth v 0) (nth v 1)) fun x=>jn (fun y z=>jn (fun A B=>ae (an .add y3 (nth A 0) (.int .i64
 1)) fun D=>u [D,(nth A 1),(nth A 2),(nth A 3),(nth A 4),(nth A 5),(nth A 6),(nth A 7),(nth A 8),(nth A 9)] B) fun u=>ae (an .add y3 (nth y 1) (nth y 4)) fun A=>ae
 (ck 1 (nth y 6) A) fun A=>ae (aM z A) fun A=>ae (ck 1 (nth y 5) (nth y 1)) fun B=>ae (aM z B) fun B=>ae (an .mul y3 (nth y 3) B) fun B=>ae (an .sub
 y3 A B) fun A=>ae (an .sub y3 A (nth y 0)) fun A=>ae (an .lss y3 A (.int .i64 0)) fun B=>jn (fun D E=>ae (an .add y3 (nth D 0) (nth D 6)) fun F=>ae (ck
 1 (nth D 8) F) fun F=>af (aq E (aB 1 F (nth D 1) (aw E))) fun _ E=>u [(nth D 2),(nth D 3),(nth D 4),(nth D 5),(nth D 6),(nth D 7),(nth D 8),(nth D 9),(nth D 10),
 (nth D 11)] E) fun u=>ax B ( ae (un .neg A) fun B=>ae (an .add y3 B (.int .i64 1000000000)) fun B=>ae (an .sub y3 B (.int .i64 1)) fun B=>ae (an .quo y3
 B (.int .i64 1000000000)) fun B=>ae (an .mul y3 B (.int .i64 1000000000)) fun D=>ae (an .add y3 A D) fun D=>u [(nth y 1),D,(nth y 1),(nth y 2),B,(nth y 3),(nth
 y 4),(nth y 5),(nth y 6),(nth y 7),(nth y 8),(nth y 9)] z) ( u [(nth y 1),A,(nth y 1),(nth y 2),(.int .i64 0),(nth y 3),(nth y 4),(nth y 5),(nth y 6),(nth y 7),(nth y
 8),(nth y 9)] z)) fun u=>ax x ( u [(nth v 2),(nth v 0),(nth v 1),(nth v 3),(nth v 4),(nth v 5),(nth v 6),(nth v 7),(nth v 8),(nth v 9)] w) ( j [(nth v 2),(nth v 3),
 (nth v 4),(nth v 5),(nth v 6),(nth v 7),(nth v 8),(nth v 9)] w)) [(.int .i64 0),(nth s 4),(.int .i64 0),(nth s 0),(nth s 1),(nth s 2),(nth s 3),(nth s 4),(nth s 5),(nth
 s 6)] t) fun j=>bJ n (fun s t u=>ae (an .geq y3 (nth t 1) (.int .i64 1000000000)) fun v=>ae (ay v false (some (nth t 1))) fun w=>ae (ay v false (some (nth
 t 3))) fun x=>ae (ay v false (some (nth t 5))) fun y=>ae (ay v false (an .sub y3 y (.int .i64 2))) fun y=>ae (ay v false (ck 1 x y)) fun x=>ae (ay v false
 (aM u x)) fun x=>ae (ay v false (an .mul y3 w x)) fun w=>ae (ay v false (some (nth t 0))) fun x=>ae (ay v false (an .mul y3 x (.int .i64 1000000000))) fun
 x=>ae (ay v false (some (nth t 4))) fun y=>ae (ay v false (some (nth t 2))) fun z=>ae (ay v false (some (nth t 5))) fun A=>ae (ay v false (an .add y3 z
 A)) fun z=>ae (ay v false (an .sub y3 z (.int .i64 2))) fun z=>ae (ay v false (ck 1 y z)) fun y=>ae (ay v false (aM u y)) fun y=>ae (ay v false (an .add
 y3 x y)) fun x=>ae (ay v false (an .gtr y3 w x)) fun w=>ae (bn v (.bool true) w) fun v=>jn (fun w x=>jn (fun y z=>s [(nth y 0),(nth y 1),(nth y 2),(nth y 3),
 (nth y 4),(nth y 5),(nth y 6),(nth y 7)] z) fun s=>ae (an .sub y3 (nth w 0) (.int .i64 1)) fun y=>ae (an .sub y3 (nth w 5) (.int .i64 1)) fun z=>ae (ck 1 (nth
 w 3) z) fun z=>ae (aM x z) fun z=>ae (an .add y3 (nth w 1) z) fun z=>ae (an .geq y3 z (.int .i64 1000000000)) fun A=>jn (fun B D=>s [(nth B 0),(nth B 1),(nth
 B 2),(nth B 3),(nth B 4),(nth B 5),(nth B 6),(nth B 7)] D) fun s=>ax A ( j [y,(nth w 2),(nth w 3),(nth w 4),(nth w 5),(nth w 6),(nth w 7)] x) ( s [z,y,(nth w 2),(nth
 w 3),(nth w 4),(nth w 5),(nth w 6),(nth w 7)] x)) fun s=>ax v ( s [(nth t 1),(nth t 0),(nth t 2),(nth t 3),(nth t 4),(nth t 5),(nth t 6),(nth t 7)] u) ( j [(nth t 1),
 (nth t 2),(nth t 3),(nth t 4),(nth t 5),(nth t 6),(nth t 7)] u)) [q,r,(nth o 0),(nth o 1),(nth o 2),(nth o 3),(nth o 4),(nth o 5)] p) fun j=>ax m ( j [(nth k 0),(nth
 k 1),(nth k 2),(nth k 3),(nth k 4),(nth k 5)] l) ( d [(nth k 2),(nth k 3),(nth k 4),(nth k 5)] l)) [a,g,f,b,e,h] i
theorem Vt {O:aL} (h:O 219=none):cc O funcs types 219 (bR Ju):= .bR h (aG Tryz.func219 (by kernel_rfl)) fun _ _ _ _ _=>by kernel_rfl
end Go.Vm.X
end
