/- A part of the proof. -/
import Derived.ChangeSame
import Derived.KernelRfl
import Derived.LaidSub
import Derived.Lib.LaidTab
import Derived.Lib.RuneCount
import Derived.WideKeyArgs
import Derived.Test.YtiodgpibgiodcaaGreatDoorP00
import Derived.Test.YtiodgpibgiodcaaGreatDoorP01
import Derived.Test.YtiodgpibgiodcaaGreatDoorP06
import Derived.Test.YtiodgpibgiodcaaGreatDoorP07
import Derived.Test.YtiodgpibgiodcaaGreatDoorP09
import Derived.Test.YtiodgpibgiodcaaGreatDoorProg
set_option linter.all false
set_option maxHeartbeats 4000000
namespace Go.aj
open Go Go.Proofs Go.Proofs.Tryz Go.ChangeShapes Go.WideShapes
set_option maxRecDepth 100000
def eS (W:World):aF:=⟨cellAt W,λa=>match W.heap[a]? with
 |some (.map c b)=>some (.map c b)
 |_=>none,eQ⟩
def ab1 (W:World):Q (eS W) af.empty W where
 aI:=λ_ _ _ a=>a
 gK:=λb e a=>by
  simp only [eS] at a;split at a
  . next i h c=>cases a;exact c
  . cases a
 hR:=λb e a=>by
  simp only [eS] at a;split at a
  . next i h c=>cases a;exact ⟨_,_,rfl⟩
  . cases a
 len:=rfl
 obj:=λid e a=>by simp [af.get,af.empty] at a
 hI:=λid d n a=>by simp [eS,eQ] at a
 e3:=λid d b f g a=>by simp [eS,eQ] at a
 sep:=λid d b f g m l j k a=>by simp [eS,eQ] at a
def X8 (W:World) (b:Nat): ¬(eS W).own b:=λ⟨_,_,_,_,a⟩=>by simp [eS,eQ] at a
def x8 {W a:World} {e:aF} (c:Fr (eS W).own (eS W) e W a) (b:Nat) (d:b<W.heap.size):a.heap[b]? =W.heap[b]? :=c.bS b d (X8 W b)
def VR {W b:World} {f:aF} (a:Fr (eS W).own (eS W) f W b) (e:MemPlace->Prop):W.keptBut b e:=by
 refine ⟨a.os,a.output,λc d=> ?_⟩;rw [x8 a c d]
 cases W.heap[c]? with
 |none=>rfl
 |some o=>cases o<;>simp
def ZN {W b:World} {f:aF} (c:Fr (eS W).own (eS W) f W b) (p:MemPlace) (d:p.block<W.heap.size):W.sameAt b p:=by
 cases p with
 | cell a e=>
   show b.cell? ⟨a,e,none⟩=W.cell? ⟨a,e,none⟩;unfold World.cell?;rw [x8 c a d]
 |map a=>exact x8 c a d
def RY {W b:World} {e:aF} (c:Fr (eS W).own (eS W) e W b) (a:Addr) (d:a.block<W.heap.size):b.frozen? a=W.frozen? a:=by
 unfold World.frozen?;rw [x8 c a.block d]
def Yq {H:Type} {enc:TypeId×Value->H} {P:Program} {f:Func} {s:ChangeSpec} {l y A x:Bool} {W e:World} {args:Array Value} {v:Value} {ds h:List (DataW H)} {d pa pv:List MemPlace}
    (i:DataW.Whole enc P f.params.toList s.vars l W args.toList ds h d)
    (q: ∀(b:Nat) (g:Nat->Bool) (B:Bool),DataW.TrodAll enc P e b g B f.resultTypes.toList (v.resultList f.resultTypes.size) (s.fn H (ds++h)).results [])
    (m: ∀g:Nat->Bool,(∀p∈d,g p.block=true)->DataW.TrodAll enc P e 0 g true f.params.toList args.toList (s.fn H (ds++h)).args pa)
    (u: ∀g:Nat->Bool,(∀p∈d,g p.block=true)->DataW.TrodVars enc P e g s.vars (s.fn H (ds++h)).vars pv)
    (k:d=pa++pv) (D:W.keptBut e (· ∈d)) (C: ∀a:Addr,a.block<W.heap.size->e.frozen? a=W.frozen? a)
    (G: ∀(j:Nat) (t:TypeId) (r:Value),f.resultTypes[j]? =some t->(v.resultList f.resultTypes.size)[j]? =some r->Value.okWide P e .any 0 t r):
    s.post enc P f l y A x W args v e:=by
 have o: ∀p∈d,(λb=>decide (b<W.heap.size)) p.block=true:=λp c=>by simpa using i.lt p c
 have E:=i.lt;refine ⟨ds,h,d,[],pa,pv,i,q _ _ _,m _ o,u _ o,World.keptBut_mono (λp c=>⟨c,?_⟩) D,λ_=> ?_⟩
 . rw [k,cr] at c;exact Or.inr c
 . obtain ⟨_,_,_,_,_,I,F⟩:=i;refine ⟨G,_,_,([]++pa)++pv,⟨[]++pa,pv,trodAll_append (m _ (λ_ _=>rfl)) (q _ _ _),u _ (λ_ _=>rfl),rfl,?_,?_⟩,?_⟩
   . intro b w c;have n:MemPlace.cell b w∈d:=by rw [k];simpa using c
     rw [C _ (E _ n)];exact I b w n
   . intro z;have:=F z;rw [k] at this;simpa using this
   . intro p c _;rw [k];simpa using c
open Go Go.Proofs.Tryz
noncomputable def aa5:x TypeInfo:= .eB 10 0 [none,o t1,o t2,o t3,o t4,o t5,o t6,o t7,o t8,o t9,o t10,o t11,o t12,o t13,o t14,o t15,o t16,o t17,o t18,o t19,o t20,o t21,o t22,o t23,o t24,o t25,o t26,o t27,o t28,o t29,o t30,o t31,o t32,o t33,o t34,o t35,o t36,o t37,o t38,none,o t40,none,o t42,o t43,o t44,o t45,none,o t47,o t48,o t49,o t50,o t51,o t52,o t53,o t54,o t55,o t56,o t57,o t58,o t59,o t60,o t61,o t62,o t63,o t64,o t65,none,o t67,o t68,o t69,o t70,none,o t72,o t73,o t74,o t75,o t76,o t77,o t78,o t79,o t80,o t81,o t82,o t83,o t84,o t85,o t86,o t87,o t88,o t89,none,o t91,o t92,o t93,o t94,o t95,o t96,o t97,o t98,o t99,o t100,o t101,o t102,o t103,o t104,o t105,o t106,o t107,o t108,o t109,none,o t111,o t112,o t113,o t114,o t115,o t116,o t117,o t118,o t119,o t120,o t121,o t122,o t123,o t124,o t125,o t126,o t127,o t128,o t129,o t130,o t131,o t132,o t133,o t134,o t135,o t136,o t137,o t138,o t139,o t140,o t141,o t142,o t143,none,o t145,o t146,o t147,o t148,o t149,o t150,o t151,o t152,o t153,none,o t155,none,o t157,o t158,o t159,o t160,o t161,o t162,o t163,o t164,o t165,o t166,o t167,o t168,o t169,o t170,o t171,o t172,o t173,o t174,o t175,o t176,o t177,none,o t179,o t180,o t181,o t182,o t183,o t184,none,o t186,o t187,o t188,o t189,o t190,o t191,o t192,none,o t194,o t195,o t196,o t197,o t198,o t199,o t200,o t201,o t202,o t203,none,o t205,o t206,none,o t208,o t209,o t210,none,o t212,o t213,o t214,o t215,o t216,o t217,o t218,o t219,o t220,none,o t222,o t223,o t224,o t225,o t226,none,o t228,o t229,o t230,o t231,o t232,o t233,o t234,o t235,o t236,o t237,o t238,o t239,o t240,none,o t242,o t243,o t244,o t245,o t246,o t247,o t248,o t249,o t250,none,o t252,o t253,o t254,o t255,o t256,o t257,o t258,o t259,o t260,o t261,o t262,o t263,o t264,o t265,o t266,o t267,o t268,o t269,o t270,o t271,o t272,o t273,o t274,o t275,o t276,o t277,o t278,o t279,o t280,o t281,o t282,o t283,o t284,o t285,o t286,o t287,o t288,o t289,o t290,o t291,o t292,o t293,o t294,o t295,none,o t297,o t298,o t299,o t300,o t301,o t302,o t303,o t304,o t305,o t306,o t307,o t308,o t309,o t310,o t311,o t312,none,o t314,o t315,o t316,o t317,o t318,o t319,o t320,none,o t322,o t323,o t324,o t325,o t326,o t327,o t328,o t329,o t330,o t331,o t332,o t333,o t334,o t335,o t336,o t337,o t338,o t339,o t340,o t341,o t342,o t343,o t344,o t345,o t346,o t347,o t348,o t349,o t350,o t351,o t352,o t353,o t354,o t355,o t356,o t357,o t358,o t359,o t360,o t361,o t362,o t363,o t364,o t365,o t366,o t367,o t368,o t369,o t370,o t371,o t372,o t373,o t374,o t375,o t376,o t377,o t378,o t379,o t380,o t381,o t382,o t383,o t384,o t385,o t386,o t387,o t388,o t389]
noncomputable def R1:x Func:= .eB 10 0 [none,none,none,o f3,o f4,o f5,o f6,o f7,o f8,o f9,o f10,o f11,o f12,o f13,o f14,o f15,o f16,o f17,o f18,o f19,o f20,o f21,o f22,o f23,o f24,o f25,o f26,o f27,o f28,o f29,o f30,o f31,o f32,o f33,o f34,o f35,o f36,o f37,o f38,o f39,o f40,o f41,o f42,o f43,o f44,o f45,o f46,o f47,o f48,o f49,o f50,o f51,o f52,o f53,o f54,o f55,o f56,o f57,o f58,o f59,o f60,o f61,o f62,o f63,o f64,o f65,o f66,o f67,o f68,o f69,o f70,o f71,o f72,o f73,o f74,o f75,o f76,o f77,o f78,o f79,o f80,o f81,o f82,o f83,o f84,o f85,o f86,o f87,o f88,o f89,o f90,o f91,o f92,o f93,o f94,o f95,o f96,o f97,o f98,o f99,o f100,o f101,o f102,o f103,o f104,o f105,o f106,o f107,o f108,o f109,o f110,o f111,o f112,o f113,o f114,o f115,o f116,o f117,o f118,o f119,o f120,o f121,o f122,o f123,o f124,o f125,o f126,o f127,o f128,o f129,o f130,o f131,o f132,o f133,o f134,o f135,o f136,o f137,o f138,o f139,o f140,o f141,o f142,o f143,o f144,o f145,o f146,o f147,o f148,o f149,o f150,o f151,o f152,o f153,o f154,o f155,o f156,o f157,o f158,o f159,o f160,o f161,o f162,o f163,o f164,o f165,o f166,o f167,o f168,o f169,o f170,o f171,o f172,o f173,o f174,o f175,o f176,o f177,o f178,o f179,o f180,o f181,o f182,o f183,o f184,o f185,o f186,o f187,o f188,o f189,o f190,o f191,o f192,o f193,o f194,o f195,o f196,o f197,o f198,o f199,o f200,o f201,o f202,o f203,o f204,o f205,o f206,o f207,o f208,o f209,o f210,o f211,o f212,o f213,o f214,o f215,o f216,o f217,o f218,o f219,o f220,o f221,o f222,o f223,o f224,o f225,o f226,o f227,none,o f229,o f230,o f231,o f232,o f233,o f234,o f235,o f236,o f237,o f238,o f239,o f240,o f241,o f242,o f243,o f244,o f245,o f246,o f247,o f248,o f249,o f250,o f251,o f252,o f253,o f254,o f255,o f256,o f257,o f258,o f259,o f260,o f261,o f262,o f263,o f264,o f265,o f266,o f267,o f268,o f269,o f270,o f271,o f272,o f273,o f274,o f275,o f276,o f277,o f278,o f279,o f280,o f281,o f282,o f283,o f284,o f285,o f286,o f287,o f288,none,o f290,o f291,o f292,o f293,o f294,o f295,o f296,o f297,o f298,o f299,o f300,o f301,o f302,o f303,o f304,o f305,o f306,o f307,o f308,o f309,o f310,o f311,o f312,o f313,o f314,o f315,o f316,o f317,o f318,o f319,o f320,o f321,o f322,o f323,o f324,o f325,o f326,o f327,o f328,o f329,o f330,o f331,o f332,o f333,o f334,o f335,o f336,o f337,o f338,o f339,o f340,o f341,o f342,o f343,o f344,o f345,o f346,o f347,o f348,o f349,none,o f351,o f352,o f353,o f354,o f355,o f356,o f357,o f358,o f359,o f360,o f361,o f362,o f363,o f364,o f365,o f366,o f367,o f368,o f369,o f370,o f371,o f372,o f373,o f374,o f375,o f376,o f377,o f378,o f379,o f380,o f381,o f382]
abbrev z {α:Type}:Option α:=none
noncomputable def DY:x (List Nat):= .eB 10 0 ([[],[],[],[2,3,5,7,9,11,13],[2,3,5,7],[1,3,9,10,13],[2,3,5],[2,3],[1,2,6,7,9,11,13,15],[1,2],[2,3,4],[2,3,4],[2,3],[2,3],[2,3,4],[1,5],[1,4],[1],[2,3,6,8,10,12,13,15],[2,3],[1,5],[],[0,1,2],[2],[4],[2],[1,2,4,9],[2,3,6],[5,6,9,12],[3,9],[],[2,3],[2],[1,5],[1,5,7,9,11,13],[1,5],[1,3,6,9],[2,3,6],[],[8],[2,3,4,5],[1,2],[1],[],[],[],[2],[2],[1,7,9],[3],[6,7],[2,4,5,7,9,11],[8,10],[1,2],[3,4,6],[3,4,6,7],[],[],[2,7,9],[3],[2,4],[3],[1,4,6],[3],[1],[3,4,6,9,11,14],[4,5],[2,10,12],[4,6,11,13,15],[2,3],[],[2,3,6,7],[2,3,5],[1,2,5],[2,4,7,9,11],[],[],[],[],[],[],[2,8],[1],[3,6,7,10],[4,6,7],[4],[],[3,5],[5],[1],[4],[],[5,7,8,10,11],[],[2],[4],[4,7],[],[],[2,8],[],[],[],[],[],[1,5,7,9],[],[1,5,7,9,11,13],[1],[],[5],[],[],[],[],[5],[],[3],[],[],[],[3],[4,6],[5,9],[3],[3],[2],[3],[6,8],[],[5],[8,10],[6,11],[],[],[4,5,7,9,11],[],[3],[4,5],[2,7,9,11],[],[3,4,5,10,12,19],[4,6],[2,3,7,11,13],[4,6,11,13,19,21,23,25],[],[],[],[3,6,9,11],[7],[3,4],[7],[3,4,5,7,9],[],[],[4,7],[4,6],[],[1],[2,3],[4,6,7,11,13],[4,6,7,10],[],[],[],[4],[],[1],[],[],[],[],[],[],[],[],[],[2],[2],[],[],[],[],[1,5],[3,6,7,11],[3,7],[4,6],[5],[3,6],[5],[],[3],[],[3],[],[],[2],[],[2],[5],[],[],[],[],[],[],[3],[1,5,7,9],[],[1],[],[1],[2,3,6],[2,3],[2,3,7],[6,10,12],[9,11],[4],[],[3,6],[2,4,9,11],[4,6,7,12,15],[],[8,10],[1,2],[],[4,8],[],[],[],[],[1,3],[],[],[],[],[8,9],[4,6,7,15,18,19,23],[2,3],[5],[],[2],[2],[],[],[],[],[],[],[],[],[4],[3],[],[],[],[],[],[],[],[],[8],[],[],[],[],[2],[2],[2],[],[],[],[3,8],[1],[1,4,6,8],[1,5,7],[2],[],[2,3,5,8],[2,3,8,13],[1,4],[3,6,8,10],[4,6],[3],[],[],[],[9],[],[],[],[],[],[],[],[2,5],[],[],[],[5,6,7,8,9,11,17],[],[8,9],[],[],[],[],[],[],[],[],[11],[],[],[],[],[],[],[],[],[],[],[],[],[],[],[],[],[],[],[4],[],[],[],[],[],[],[],[],[],[2],[],[2,3],[],[1],[],[2,3],[1,5],[1],[1],[],[],[],[],[],[],[],[],[],[],[],[],[],[],[4,5],[],[],[4,6],[6],[],[2,5],[],[],[],[],[],[],[10],[],[],[6,7],[4,6,7,9]].map some)
def JD:List Nat:= [29,41,74,75,88,89,91,100,101,115,134,145,146,148,154,192,197,222,223,224,253,281,285,286,302,303,349]
def BC:List Nat->List Nat
 | []=> []
 | a::l=>match a%2 with
   |0=>List.replicate (a/2) 0++BC l
   |_=>a/2::BC l
noncomputable def QE:x (List (Nat×Nat×List Nat)):= .eB 10 0 ([[],[],[],[(9,[6,151,55,5,8,119,4,55,12,87,2,119,2,105,5,2]),(14,[6,215,183,5,8,55,10,87,2,55,2,105,5,4])],[],[(19,[215,4,55,4,23,8,9,5,6,215,4,215,8])],[(8,[2,87,8,55,10,87,2,9,5,2,55,2,1048603,5,4])],[],[(6,[23,5,5,5,5,5,5,5,8,151,2]),(8,[23,5,5,5,5,8,215,2]),(9,[23,5,5,5,5,8,247,2])],[],[(4,[2,39,5,55,5,4,71,2])],[],[],[],[(4,[2,39,5,55,5,4,71,2])],[],[],[],[(6,[2,103,2,55,6,9,6,103,2,55,6,9,4]),(12,[2,135,2,55,6,9,6,135,2,55,6,9,4]),(18,[2,167,2,55,6,9,6,167,2,55,6,9,4]),(30,[2,247,2,215,6,9,6,247,2,215,6,9,4])],[(6,[2,39,4,9,2,55,4,9,2]),(12,[2,39,4,9,2,55,4,9,2])],[],[],[],[],[],[],[],[],[(4,[2,3,2,151,4,9,87,5,4])],[],[(6,[6,9,6,9,5,2])],[(15,[2,55,5,2,55,5,4,39,2,55,5,6])],[],[(4,[5,2,23,5,2,23,5,4])],[(5,[4,87,2,87,5,5,2,87,5,2]),(7,[5,2,23,5,2,23,5,4]),(18,[4,183,5,5,2,183,5,2])],[],[(7,[23,2,23,5,2,5,2])],[(6,[2,103,2,55,6,9,5,6,103,2,55,6,153,5,8,103,2,55,6,329,5,4]),(12,[2,39,4,9,2,55,4,9,5,2])],[(6,[6,9,6,9,2])],[],[(5,[2,87,39,55])],[],[],[],[],[],[],[],[(2,[5,2,23,5,5,4]),(5,[6,4123,2,23,2,5,5]),(10,[6,9,2,119,119,5]),(15,[6,9,2,151,151,5])],[],[],[(8,[2,119,151,2,5,5,5,2,119]),(13,[2,119,183,2,5,2,5,2,119])],[],[(1,[2,23,5,2,23,5,2,23,2,23])],[(11,[55,2,71,4,5,4,71,2,5,3,5,8,302154779,71,2,5,4,5,5,5,2,5,103])],[(5,[55,2,71,4,5,2,119,71,2,5,4,5,5,5,2,71,2,5,5,5,119,3,5,5,5,103])],[],[],[(3,[2,119,2,119,6]),(6,[2,151,2,151,6])],[],[(2,[2,39,4,5,6,39,2,71])],[],[],[],[(4,[2,23,5,6,23,2,5,8,23,5,2,23,5,5,5,4])],[(5,[6,9,4,55,5,8,103,2]),(8,[2,71,4,55,2,55,5,2,55,5,5]),(12,[6,9,151,5]),(18,[6,9,183,5,2]),(22,[71,4,55,5,5,5])],[(1,[8,9,8,9,5,5,4]),(7,[6,9,2,71,5,4])],[(1,[6,9,8,9,5,2]),(2,[39,8,9,5]),(5,[39,8,9,5]),(6,[8,9,10,9,6]),(7,[39,8,9,5]),(18,[2,199,12,9,2,199,5,2])],[(10,[2,183,2,71,4,5]),(11,[4,183,5,5,4,183,5,4]),(19,[103,2,5,2,5,5])],[(6,[2,39,4,9,2,55,4,9,2])],[(6,[8,9,8,9,12,9,8,9,14,9,8,9,5,4])],[(13,[2,39,6,9,2,55,6,9,5,2]),(19,[2,39,4,9,2,55,4,9,2])],[(3,[2,87,39,55])],[],[(3,[9,2,39,5,2,39,283,2,5,8475,2,39,5,139547,2,39,5,2236699,2,39,5,35791131,2,39,5,572662043,2,39,5,4,119]),(7,[2,119,9,2,151,5,1051,2,151,5,17435,2,151,5,2,151,2,151,2,5,5,2,119]),(12,[2,119,9,183,5,5,5,2,119])],[],[],[],[],[],[],[(8,[2,135,6,9,8,135,5,4])],[],[(17,[4,167,5,2,119,4,283,5,2]),(24,[2,55,4,9,5,12,55,6,105,2,55,4,105,5,6])],[],[],[],[],[],[],[],[(5,[12,5,2])],[],[],[],[],[],[],[],[(8,[2,135,6,9,8,135,5,4])],[(5,[12,5,2])],[],[],[],[],[(12,[4,119,5,5,2,119,5,2])],[],[(5,[4,87,2,87,5,5,2,87,5,2]),(18,[4,183,5,5,2,183,5,2])],[],[],[],[],[],[],[],[],[],[(1,[2,55,8,55,5,12,137,2,55,5,10,297,2,55,5,2,55,5,6])],[],[],[(2,[2,5,6,41,5,6,121,10,121,4,5,14,329,2,329,5,4])],[],[],[(4,[6,9,151,5,2])],[],[],[],[],[(1,[6,2075,2,135,5,2,5,2])],[],[],[],[(9,[6,9,2,9,5,6,121,8])],[],[],[(4,[8,9,6,119,10,9,6]),(14,[2,71,2,87,183,8,9,6,9,5])],[(6,[6,9,6,9,5,2])],[],[(6,[2,5,8,41,6,41,6]),(9,[8,9,71,87])],[],[],[(21,[3,2,55,5,2,55,3,5,2])],[(0,[3,8,9,5,8,2075,5,2]),(12,[8,9,2,71,5,8,71,2,71,5,4])],[],[(36,[8,9,311,5,6,311,5,4]),(42,[8,9,6,343,10,9,6]),(51,[2,5,10,41,407,5,6,407,8,169,6,169,5,6])],[],[],[(3,[16])],[(3,[9,2,55,9,5,539,2,55,539,5,4,55,5,4,55,5,4,151]),(7,[2,151,9,2,183,5,1051,2,183,5,2,5,5,2,151])],[(5,[4,119,5,4,119,5,4,119,5,2,119,2,119,2,119])],[],[],[(1,[4,55,5,4,55,5,2,55,2,55,4,87]),(7,[4,119,5,4,119,5,4,119,5,2,119,2,119,2,119]),(13,[2,87,4,151,5,2,5,5,2,87]),(18,[2,87,4,5,5,5,2,87])],[],[],[],[],[],[],[(1,[2,39,2,55,5,2,39,2,55,5,2,39,2,55,5,2,39,2,55,5,5,5,2]),(4,[2,39,2,55,5,2,39,2,55,5,5,5,2])],[(11,[71,2,183,2,119,4,9,5,2]),(18,[71,2,215,2,119,6,5,2])],[(3,[2,71,2,71,119,5,2,103,5,2])],[],[],[],[],[],[],[],[],[],[],[],[],[],[],[],[],[],[],[],[],[],[],[(17,[4,183,5,2,119,4,283,5,2])],[],[],[(7,[9,155,5,5])],[],[],[],[(1,[6,9,55,5,2])],[],[],[],[],[],[],[],[(9,[6,9,2,87])],[],[(3,[6,9,6,9,4])],[],[(5,[6,9,6,9,6,9,2])],[],[],[(8,[12,8219,2,5,3,5,8,5]),(15,[12,9,55,3,5,8,5]),(21,[12,8219,2,5,3,5,8,5]),(23,[12,9,12,9,4,5]),(27,[12,9,12,9,4,5])],[(4,[5,2,23,5,2,23,5,4])],[],[],[],[],[],[],[],[],[],[(1,[8,9,71,5,10])],[],[(3,[5,2,55,5,2,55,5,4])],[],[(2,[6,9,2,103,5,12,119,6]),(13,[2,103,14,9,2,103,5,8,103,2,119,5,4]),(17,[12,9,247,5,6,247,2,119,5,4])],[],[(6,[9,2,135,5,283,2,135,283,5,8475,2,135,5,2,135,2,135,2,135]),(11,[2,135,2,9,2,167,5,4,5])],[(1,[2,23,5,2,23,5,2,23,5,2,23,2,23,2,23])],[],[(6,[9,2,71,5,4,71,5,2,71,2,71])],[],[],[],[],[(19,[2,23,2,23,2,55,2,55])],[],[],[],[],[],[(14,[2,71,247,2,103,4,9,2,103,6,9,119,5,5,2]),(27,[2,311,2,119,6,9,2,119,8,9,5,5,2,311])],[],[(2,[2,5,4,87,2,3,5,2])],[],[],[],[],[],[],[],[],[],[],[(6,[6,9,6,9,2])],[],[],[(6,[6,9,8,9,2]),(11,[6,9,8,9,2])],[(17,[14,9,6,9,5,4])],[],[],[(0,[6,9,6,9,12,9,6,9,2,5,4,5,4]),(1,[6,9,6,9,2,5]),(3,[6,9,6,9,12,9,6,9,6])],[(0,[6,9,6,9,4]),(15,[8,9,6,9,6,9,10,5])],[(2,[6,9,6,9,4])],[(1,[2,5,8,41,6,41,14,41,6,41,4,41,14,41,6,41,4,41,8])],[(2,[8,9,6,9,6,5])],[(1,[2,5,8,41,6,41,14,41,6,41,4,41,12,41,6,41,4,41,5,6])],[],[],[],[(6,[2,39,6,9,6,9,4,9,2,5,5,2,39]),(9,[2,39,6,9,6,9,4,9,2,5,5,2,39]),(10,[2,39,6,9,6,9,4,9,5,5,2,39]),(18,[6,9,6,9,4,9]),(25,[2,39,2,5,5,5,2,39]),(36,[12,8219,39,5,5,8,5])],[(4,[2,39,2,5,5,5,2,39]),(7,[12,9,39,3,5,8,5])],[(7,[10,9,39,3,5,6,5])],[(10,[10,4123,2,5,3,5,6,5]),(20,[10,4123,2,5,3,5,6,5])],[],[],[(1,[4,9,2,55,8,5])],[],[(16,[23,2,135,5,2,135,5])],[],[],[(4,[12,9,5])],[],[(19,[39,8,9,5,2])],[],[],[],[],[(6,[10,5,6,5,5,2])],[],[],[],[],[],[],[],[],[],[],[],[],[],[],[(16,[87,2,135,2,151,8,9,5,4])],[],[],[(11,[16,5]),(15,[16,5])],[],[],[],[],[],[(7,[24,5,2,5]),(8,[24,5,2,5]),(9,[24,5,2,5]),(10,[24,5,2,5]),(17,[24,5,2,5]),(18,[24,5,2,5]),(23,[24,5,2,5])],[],[],[],[],[],[(4,[14,9,8,9,5,2]),(6,[18,9,6,9,2,5,2,5])],[(10,[22,9,6,9,2,5,2,5])],[(10,[22,9,6,9,2,5,2,5])],[],[(3,[14,9,6,9,2,5,2,5])],[(5,[14,9,8,9,5,4]),(11,[18,9,6,9,2,5,2,5]),(16,[6,9,8,9,5,2]),(17,[18,9,6,9,2,5,2,5]),(22,[6,9,8,9,5,2]),(23,[18,9,6,9,2,5,2,5])],[],[(1,[14,9,6,9,2,5,2,5]),(3,[14,9,6,9,5,4]),(5,[14,9,6,9,5,2]),(8,[14,9,6,9,2,5,2,5])],[(1,[14,9,6,9,2,5,2,5]),(3,[14,9,6,9,5,2]),(5,[14,9,6,9,5,4]),(8,[14,9,6,9,2,5,2,5]),(10,[14,9,6,9,2,5,2,5]),(13,[14,9,6,9,5,2]),(15,[14,9,6,9,5,4]),(18,[14,9,6,9,2,5,2,5]),(21,[14,9,6,9,2,5,2,5])],[],[],[],[(1,[6,9,8,9,16,9,6,9,6,9,16])],[],[(0,[8,9,6,9,6,9,10,9,6,9,6,5])],[(1,[6,9,6,9,2,71,2,71]),(2,[8,9,71,3,5,4,5])],[(1,[6,9,10,9,12,9,6,9,6,5,2]),(2,[10,9,6,9,16])],[(5,[8,9,6,9,18,9,2,5])],[],[],[],[(1,[2,5,8,41,6,41,14,41,6,41,4,41,8])],[],[(4,[6,9,6,9,4,9,2])],[(1,[6,9,6,9,4]),(2,[6,9,6,9,4]),(3,[6,9,6,9,4,9,6,9,6,9,4,9,4])],[],[],[],[(14,[10,4123,9,5,5,6,5])],[],[],[],[],[],[],[],[],[],[],[],[],[],[],[(3,[20,9,12,9,5,2]),(5,[10,9,10,9,5,2]),(6,[26,9,10,9,2,5,2,5])],[],[(1,[4,9,4,9,6,5]),(2,[4,9,4,9,6,5]),(3,[4,9,4,9,6,5])],[],[],[],[(9,[6,9,6,9,2,9,2,87])],[],[],[(19,[2,71,2,5,5,5,2,71]),(21,[8,9,71,3,5,4,5]),(25,[8,2075,2,5,3,5,4,5]),(11,[8,9,103,3,5,4,5])],[],[],[],[(3,[20])],[],[],[],[],[(9,[6,9,12,9,8,9,8]),(18,[6,9,12,9,8,9,8])],[(9,[6,9,12,9,8,9,8])],[(1,[6,9,6,9,5])],[],[(10,[2,119,6,5,5,5,2,119])],[(3,[2,5,10,41,6,41,4,41,2,71,12,41,6,41,4,41,2,71,6]),(7,[6,9,6,9,6,9,4,103]),(9,[2,5,10,41,6,41,4,41,5,4]),(21,[2,119,6,5,5,5,2,119]),(29,[2,151,6,5,5,5,2,151]),(31,[2,151,6,5,5,5,2,151])],[(3,[14,9,6,9,2,5,2,5])]].map λb=>some (b.map λa=>(a.1,0,BC a.2)))
noncomputable def DX (f t:Nat):Bool:=match DY.get f with
 |some a=>hv t a
 |none=>false
def x5 (k:IntKind) (l:List Nat):aa:= .b5 (l.map λa=> .int k (.ofNat a)) 0
def rm (g:Nat):aa:=match g with
 |1=>x5 .u8 [0,0,0,0,0,0,0,0,0,1,1,1,1,1,0,0,0,0,0,0,0,0,0,0,0,0,0,0,0,0,0,0,1,0,0,0,0,0,0,0,0,0,0,0,0,0,0,0,0,0,0,0,0,0,0,0,0,0,0,0,0,0,0,0,0,0,0,0,0,0,0,0,0,0,0,0,0,0,0,0,0,0,0,0,0,0,0,0,0,0,0,0,0,0,0,0,0,0,0,0,0,0,0,0,0,0,0,0,0,0,0,0,0,0,0,0,0,0,0,0,0,0,0,0,0,0,0,0,0,0,0,0,0,0,0,0,0,0,0,0,0,0,0,0,0,0,0,0,0,0,0,0,0,0,0,0,0,0,0,0,0,0,0,0,0,0,0,0,0,0,0,0,0,0,0,0,0,0,0,0,0,0,0,0,0,0,0,0,0,0,0,0,0,0,0,0,0,0,0,0,0,0,0,0,0,0,0,0,0,0,0,0,0,0,0,0,0,0,0,0,0,0,0,0,0,0,0,0,0,0,0,0,0,0,0,0,0,0,0,0,0,0,0,0,0,0,0,0,0,0,0,0,0,0,0,0]
 |2=>x5 .u64 [1,10,100,1000,10000,100000,1000000,10000000,100000000,1000000000,10000000000,100000000000,1000000000000,10000000000000,100000000000000,1000000000000000,10000000000000000,100000000000000000,1000000000000000000,10000000000000000000]
 |4=>x5 .u8 [0,1,28,2,29,14,24,3,30,22,20,15,25,17,4,8,31,27,13,23,21,19,16,7,26,12,18,6,11,5,10,9]
 |5=>x5 .u8 [0,1,56,2,57,49,28,3,61,58,42,50,38,29,17,4,62,47,59,36,45,43,51,22,53,39,33,30,24,18,12,5,63,55,48,27,60,41,37,16,46,35,44,21,52,32,23,11,54,26,40,15,34,20,31,10,25,14,19,9,13,8,7,6]
 |_=> .bad
def BH:List Nat:= [88,166]
def V6 (e u:Nat):Bool:=false
noncomputable def l:Env:= {T:=i2 390 aa5,nD:=λb=>hv b BH,G:=rm,fns:=i2 410 R1,pure:=λ_=>false,bS:=λa=>hv a JD,loc:=DX,aI:=λ_=>false,cL:=λ_=>none,dH:=V6}
noncomputable def R:bU:=Xy l.fns QE
def vF:List aa->af->cY:=λf a=>match f with
 | [.ref id c 0 7 d false,.int .i64 (.ofNat 0),.A [e] _]=>match a.get id with
   | some (.cells h g 0 b)=>match Nat.beq h c&&(Nat.ble g c&&(Nat.beq (ev (c+1)) (ev c)&&(Nat.beq b.length (d*7)&&(Nat.blt 0 d&&(Nat.ble d 1000&&(Nat.beq e.length 7&&(b.all J&&(e.all J&&(b.all (D 20)&&e.all (D 20)))))))))) with
     |true=>re (chunk 7 (d+1) (e++b)) λi=>ep ((a.push .gone).set id .gone) λa=> .ret (.A i false) a
     |false=> .fail
   |_=> .fail
 |_=> .fail
noncomputable def mZ:List aa->af->cY:=λb a=>match vF b a with
 | .ret c a=> .ret c a
 |_=>X l R 1000 1 302 b a
def KK:List aa->af->cY:=λb a=>match b with
 | []=> .ret (.bool true) a
 |_=> .fail
noncomputable def Ew (f:Nat):Option (List aa->af->cY):=match Nat.beq f 246 with
 |true=>some (rZ sN sW)
 |false=>match Nat.beq f 289 with
 |true=>some r0
 |false=>match Nat.beq f 194 with
 |true=>some qC
 |false=>match Nat.beq f 302 with
 |true=>some mZ
 |false=>match Nat.beq f 8 with
 |true=>some KK
 |false=>none
noncomputable def G:Env:= {l with cL:=Ew,bS:=λa=> !Nat.beq a 29&&hv a JD}
theorem Ws (x y l):hv x (y::l)=(Nat.beq x y||hv x l):=by simp only [hv];cases Nat.beq x y<;>rfl
theorem Wt (x):hv x []=false:=rfl
noncomputable def b (f:Nat):List Nat:=match DY.get f with
 |some a=>a
 |none=> []
theorem J1 (f d):G.loc f d=hv d (b f):=by show DX f d=_;unfold DX b;cases DY.get f<;>rfl
theorem WA (f a c tm H):lu G (.func f) a c tm H=if a.all aD&&c.all aD then .ok (.fn (.func f) a c) tm H else .fail:=by simp only [lu,t_,show G.aI f=false from rfl,zq];rfl
attribute [go_sem] Ws Wt J1 WA Nat.reduceEqDiff Nat.reduceLT Nat.reduceAdd Nat.reduceLeDiff Nat.le_refl Nat.zero_le Bool.false_eq_true Int.reduceBEq Int.reduceBNe Int.reduceLT Int.reduceLE Int.reduceGT Int.reduceGE Int.reduceEq Nat.reduceMul Nat.reduceSub Nat.reduceBEq
abbrev K (f:Nat) (args:List aa) (v:aa):Prop:=C G R f args v
abbrev dt (f:Nat) (args:List aa) (S N:aa->Prop):Prop:=aL G R f args S N
@[go_sem] theorem acd:n G 3=some ⟨1,false,.o⟩/\n G 4=some ⟨1,false,.o⟩/\n G 9=some ⟨1,false,.str⟩/\n G 22=some ⟨1,false,.A 9 1 16⟩/\n G 23=some ⟨1,false,.A 166 2 32⟩/\n G 24=some ⟨1,false,.A 52 7 120⟩/\n G 26=some ⟨5,true,.st [(0,1),(1,1),(2,1),(3,1),(4,1)]⟩/\n G 27=some ⟨1,false,.A 81 15 232⟩/\n G 28=some ⟨1,false,.A 83 10 144⟩/\n G 29=some ⟨1,false,.A 64 7 128⟩/\n G 31=some ⟨13,true,.st [(0,1),(1,5),(6,1),(7,1),(8,1),(9,1),(10,1),(11,1),(12,1)]⟩/\n G 32=some ⟨1,false,.o⟩/\n G 33=some ⟨1,false,.A 35 6 96⟩/\n G 35=some ⟨6,true,.st [(0,1),(1,1),(2,1),(3,1),(4,1),(5,1)]⟩/\n G 48=some ⟨1,false,.A 88 2 32⟩/\n G 49=some ⟨1,false,.o⟩/\n G 50=some ⟨1,false,.A 3 1 8⟩/\n G 52=some ⟨7,true,.st [(0,1),(1,1),(2,1),(3,1),(4,1),(5,1),(6,1)]⟩/\n G 61=some ⟨1,false,.A 85 11 168⟩/\n G 62=some ⟨1,false,.A 114 1 24⟩/\n G 64=some ⟨7,true,.st [(0,1),(1,1),(2,1),(3,1),(4,1),(5,1),(6,1)]⟩/\n G 65=some ⟨1,false,.o⟩/\n G 78=some ⟨4,true,.st [(0,1),(1,1),(2,1),(3,1)]⟩/\n G 81=some ⟨15,true,.st [(0,6),(6,6),(12,1),(13,1),(14,1)]⟩/\n G 83=some ⟨10,true,.st [(0,1),(1,1),(2,6),(8,1),(9,1)]⟩/\n G 85=some ⟨11,true,.st [(0,1),(1,1),(2,6),(8,1),(9,1),(10,1)]⟩/\n G 88=some ⟨2,true,.st [(0,1),(1,1)]⟩/\n G 94=some ⟨1,false,.o⟩/\n G 100=some ⟨1,false,.A 103 1 24⟩/\n G 102=some ⟨1,false,.A 210 7 112⟩/\n G 103=some ⟨1,false,.A 210 7 112⟩/\n G 114=some ⟨1,true,.st [(0,1)]⟩/\n G 119=some ⟨2,true,.st [(0,1),(1,1)]⟩/\n G 123=some ⟨14,true,.st [(0,13),(13,1)]⟩/\n G 130=some ⟨1,false,.o⟩/\n G 137=some ⟨8,true,.st [(0,5),(5,1),(6,1),(7,1)]⟩/\n G 142=some ⟨1,true,.st [(0,1)]⟩/\n G 146=some ⟨1,false,.o⟩/\n G 166=some ⟨2,true,.st [(0,1),(1,1)]⟩/\n G 170=some ⟨1,false,.o⟩:=by and_intros<;>kernel_rfl
@[go_sem] theorem qT:n G 192=some ⟨1,false,.o⟩/\n G 198=some ⟨1,false,.A 22 1 24⟩/\n G 201=some ⟨2,true,.st [(0,1),(1,1)]⟩/\n G 210=some ⟨7,true,.st [(0,1),(1,6)]⟩/\n G 222=some ⟨1,false,.o⟩/\n G 230=some ⟨1,false,.A 28 1 24⟩/\n G 235=some ⟨1,false,.A 33 1 24⟩/\n G 254=some ⟨1,false,.o⟩/\n G 268=some ⟨0,true,.st []⟩/\n G 299=some ⟨1,false,.A 302 2 48⟩/\n G 300=some ⟨1,false,.A 4 1 1⟩/\n G 302=some ⟨2,true,.st [(0,1),(1,1)]⟩/\bN G 26=some (.agg [.V,.V,.V,.V,.V])/\bN G 28=some .V/\bN G 31=some (.agg [(.str 0 0),.V,.V,.V,.V,.V,.V,.V,(.str 0 0),.V,.V,(.str 0 0),(.str 0 0)])/\bN G 33=some .V/\bN G 64=some (.agg [(.str 0 0),.V,.V,.V,.V,(.int .i64 0),(.int .i64 0)])/\bN G 78=some (.agg [(.int .i64 0),(.str 0 0),(.int .i64 0),(.int .i64 0)])/\bN G 81=some (.agg [(.int .i64 0),(.int .i64 0),(.str 0 0),(.str 0 0),.V,.V,(.int .i64 0),(.int .i64 0),(.str 0 0),(.str 0 0),.V,.V,.V,(.int .i64 0),(.int .i64 0)])/\bN G 85=some (.agg [(.str 0 0),(.str 0 0),(.int .i64 0),(.int .i64 0),(.str 0 0),(.str 0 0),.V,.V,.V,(.int .i64 0),(.int .i64 0)])/\bN G 88=some (.agg [(.str 0 0),(.str 0 0)])/\bN G 103=some .V/\bN G 114=some (.agg [.V])/\bN G 119=some (.agg [(.int .i64 0),(.int .i64 0)])/\bN G 123=some (.agg [(.str 0 0),.V,.V,.V,.V,.V,.V,.V,(.str 0 0),.V,.V,(.str 0 0),(.str 0 0),.dz])/\bN G 137=some (.agg [.V,.V,.V,.V,.V,.ef,.ef,.ef])/\bN G 142=some (.agg [.dz])/\bN G 166=some (.agg [(.str 0 0),(.str 0 0)])/\bN G 192=some .eA/\bN G 201=some (.agg [(.int .i64 0),(.bool false)])/\bN G 210=some (.agg [(.str 0 0),(.int .i64 0),(.int .i64 0),(.str 0 0),(.str 0 0),.V,.V])/\bN G 226=some .ef/\bN G 254=some .eA/\bN G 268=some (.agg [])/\bN G 302=some (.agg [.V,.V])/\s 2 (.string ⟨#[]⟩)= .str 0 0/\s 2 (.string ⟨#[34,39,92]⟩)= .str 3 6039330/\s 2 (.string ⟨#[36]⟩)= .str 1 36/\s 2 (.string ⟨#[39]⟩)= .str 1 39/\s 2 (.string ⟨#[65,110,121]⟩)= .str 3 7958081:=by and_intros<;>kernel_rfl
@[go_sem] theorem qU:s 2 (.string ⟨#[66,111,111,108]⟩)= .str 4 1819242306/\s 2 (.string ⟨#[73,100]⟩)= .str 2 25673/\s 2 (.string ⟨#[73,110,116]⟩)= .str 3 7630409/\s 2 (.string ⟨#[75]⟩)= .str 1 75/\s 2 (.string ⟨#[76,105,115,116]⟩)= .str 4 1953720652/\s 2 (.string ⟨#[77,97,112]⟩)= .str 3 7364941/\s 2 (.string ⟨#[84,101,120,116]⟩)= .str 4 1954047316/\s 2 (.string ⟨#[86]⟩)= .str 1 86/\s 2 (.string ⟨#[88]⟩)= .str 1 88/\s 2 (.string ⟨#[95]⟩)= .str 1 95/\s 2 (.string ⟨#[95,99,111,111,108,95]⟩)= .str 6 104919330677599/\s 2 (.string ⟨#[95,104,101,97,116,95]⟩)= .str 6 104953454880863/\s 2 (.string ⟨#[97,100,100]⟩)= .str 3 6579297/\s 2 (.string ⟨(List.append [97,100,100,32,115,117,98,32,109,117,108,32,100,105,118,32,109,111,100,32,110,101,103,32,108,116,32,108,101,32,103,116,32,103,101,32,101,113,32,110,101,32,97,110,100,32,111,114,32,110,111,116,32,112,105,99,107] [32,99,97,116,32,108,101,110,103,116,104,32,116,101,120,116,32,106,111,105,110,32,103,101,116,32,112,117,116,32,104,97,115,32,100,101,108,32,107,101,121,115,32,115,105,122,101,32,105,115,32,105,115,118,97,108,117,101]).toArray⟩)= .str 115 3512734084378088553325630052870886529947517021185620958981523755477882644105126609146903663803857763560802802188787210184475362562191644466193523421000569059751419629829605841330256231361608756107532437428240172945737778236111716152556591854596622006402719568366399295079081057/\s 2 (.string ⟨#[97,110,100]⟩)= .str 3 6581857/\s 2 (.string ⟨#[99,97,110,110,111,116,32,98,101,32,110,101,103,97,116,105,118,101]⟩)= .str 18 8838634371626034279618351153450530198413667/\s 2 (.string ⟨#[99,97,116]⟩)= .str 3 7627107/\s 2 (.string ⟨#[100,101,108]⟩)= .str 3 7103844/\s 2 (.string ⟨#[100,105,118]⟩)= .str 3 7760228/\s 2 (.string ⟨#[101,113]⟩)= .str 2 29029/\s 2 (.string ⟨#[102,97,108,115,101]⟩)= .str 5 435728179558/\s 2 (.string ⟨#[103,101]⟩)= .str 2 25959/\s 2 (.string ⟨#[103,101,116]⟩)= .str 3 7628135/\s 2 (.string ⟨#[103,116]⟩)= .str 2 29799/\s 2 (.string ⟨#[104,97,115]⟩)= .str 3 7561576/\s 2 (.string ⟨#[105]⟩)= .str 1 105/\s 2 (.string ⟨#[105,115]⟩)= .str 2 29545/\s 2 (.string ⟨#[105,115,118,97,108,117,101]⟩)= .str 7 28558080999846761/\s 2 (.string ⟨#[106,111,105,110]⟩)= .str 4 1852403562/\s 2 (.string ⟨#[107]⟩)= .str 1 107/\s 2 (.string ⟨#[107,101,121,115]⟩)= .str 4 1937335659/\s 2 (.string ⟨#[108,101]⟩)= .str 2 25964/\s 2 (.string ⟨#[108,101,110,32,111,117,116,32,111,102,32,114,97,110,103,101]⟩)= .str 16 134789072936214216453580009062074836332/\s 2 (.string ⟨#[108,101,110,103,116,104]⟩)= .str 6 114849160783212/\s 2 (.string ⟨#[108,116]⟩)= .str 2 29804/\s 2 (.string ⟨#[109,111,100]⟩)= .str 3 6582125/\s 2 (.string ⟨#[109,117,108]⟩)= .str 3 7107949/\s 2 (.string ⟨#[110,101]⟩)= .str 2 25966/\s 2 (.string ⟨#[110,101,103]⟩)= .str 3 6776174/\s 2 (.string ⟨#[110,111,116]⟩)= .str 3 7630702:=by and_intros<;>kernel_rfl
@[go_sem] theorem NH:s 2 (.string ⟨#[111,114]⟩)= .str 2 29295/\s 2 (.string ⟨#[112,105,99,107]⟩)= .str 4 1801677168/\s 2 (.string ⟨#[112,117,116]⟩)= .str 3 7632240/\s 2 (.string ⟨#[115,105,122,101]⟩)= .str 4 1702521203/\s 2 (.string ⟨#[115,117,98]⟩)= .str 3 6452595/\s 2 (.string ⟨#[116,101,120,116]⟩)= .str 4 1954047348/\s 2 (.string ⟨#[116,114,117,101]⟩)= .str 4 1702195828/\b 3= [2,3,5,7,9,11,13]/\b 4= [2,3,5,7]/\b 5= [1,3,9,10,13]/\b 6= [2,3,5]/\b 7= [2,3]/\b 9= [1,2]/\b 10= [2,3,4]/\b 11= [2,3,4]/\b 12= [2,3]/\b 13= [2,3]/\b 14= [2,3,4]/\b 15= [1,5]/\b 16= [1,4]/\b 17= [1]/\b 18= [2,3,6,8,10,12,13,15]/\b 19= [2,3]/\b 20= [1,5]/\b 21= []/\b 26= [1,2,4,9]/\b 27= [2,3,6]/\b 28= [5,6,9,12]/\b 29= [3,9]/\b 30= []/\b 31= [2,3]/\b 32= [2]/\b 33= [1,5]/\b 34= [1,5,7,9,11,13]/\b 35= [1,5]/\b 36= [1,3,6,9]/\b 37= [2,3,6]/\b 38= []/\b 39= [8]/\b 41= [1,2]:=by and_intros<;>kernel_rfl
@[go_sem] theorem ahB:b 42= [1]/\b 43= []/\b 44= []/\b 45= []/\b 46= [2]/\b 47= [2]/\b 48= [1,7,9]/\b 49= [3]/\b 50= [6,7]/\b 51= [2,4,5,7,9,11]/\b 52= [8,10]/\b 53= [1,2]/\b 54= [3,4,6]/\b 55= [3,4,6,7]/\b 56= []/\b 57= []/\b 58= [2,7,9]/\b 59= [3]/\b 60= [2,4]/\b 61= [3]/\b 62= [1,4,6]/\b 63= [3]/\b 64= [1]/\b 65= [3,4,6,9,11,14]/\b 66= [4,5]/\b 67= [2,10,12]/\b 68= [4,6,11,13,15]/\b 69= [2,3]/\b 70= []/\b 71= [2,3,6,7]/\b 74= [2,4,7,9,11]/\b 75= []/\b 76= []/\b 77= []/\b 78= []/\b 79= []/\b 80= []/\b 81= [2,8]/\b 82= [1]/\b 83= [3,6,7,10]:=by and_intros<;>kernel_rfl
@[go_sem] theorem ahC:b 84= [4,6,7]/\b 85= [4]/\b 86= []/\b 87= [3,5]/\b 88= [5]/\b 89= [1]/\b 90= [4]/\b 91= []/\b 92= [5,7,8,10,11]/\b 94= [2]/\b 95= [4]/\b 96= [4,7]/\b 97= []/\b 98= []/\b 99= [2,8]/\b 100= []/\b 101= []/\b 102= []/\b 103= []/\b 104= []/\b 105= [1,5,7,9]/\b 106= []/\b 107= [1,5,7,9,11,13]/\b 108= [1]/\b 109= []/\b 110= [5]/\b 111= []/\b 112= []/\b 113= []/\b 114= []/\b 115= [5]/\b 116= []/\b 117= [3]/\b 118= []/\b 119= []/\b 120= []/\b 121= [3]/\b 122= [4,6]/\b 123= [5,9]/\b 124= [3]:=by and_intros<;>kernel_rfl
@[go_sem] theorem ahD:b 125= [3]/\b 126= [2]/\b 127= [3]/\b 128= [6,8]/\b 129= []/\b 130= [5]/\b 131= [8,10]/\b 132= [6,11]/\b 133= []/\b 134= []/\b 135= [4,5,7,9,11]/\b 136= []/\b 145= []/\b 146= []/\b 147= []/\b 148= [3,6,9,11]/\b 149= [7]/\b 150= [3,4]/\b 151= [7]/\b 152= [3,4,5,7,9]/\b 153= []/\b 154= []/\b 155= [4,7]/\b 156= [4,6]/\b 157= []/\b 158= [1]/\b 159= [2,3]/\b 160= [4,6,7,11,13]/\b 161= [4,6,7,10]/\b 162= []/\b 163= []/\b 164= []/\b 165= [4]/\b 166= []/\b 167= [1]/\b 169= []/\b 170= []/\b 171= []/\b 172= []/\b 173= []:=by and_intros<;>kernel_rfl
@[go_sem] theorem ahE:b 174= []/\b 175= []/\b 176= []/\b 177= [2]/\b 178= [2]/\b 179= []/\b 180= []/\b 181= []/\b 182= []/\b 183= [1,5]/\b 184= [3,6,7,11]/\b 185= [3,7]/\b 186= [4,6]/\b 187= [5]/\b 188= [3,6]/\b 189= [5]/\b 190= []/\b 191= [3]/\b 192= []/\b 193= [3]/\b 195= []/\b 196= [2]/\b 197= []/\b 198= [2]/\b 222= []/\b 223= [8,10]/\b 224= [1,2]/\b 225= []/\b 226= [4,8]/\b 227= []/\b 231= [1,3]/\b 232= []/\b 233= []/\b 234= []/\b 235= []/\b 236= [8,9]/\b 237= [4,6,7,15,18,19,23]/\b 238= [2,3]/\b 239= [5]/\b 240= []:=by and_intros<;>kernel_rfl
@[go_sem] theorem ahF:b 241= [2]/\b 242= [2]/\b 243= []/\b 245= []/\b 247= []/\b 248= []/\b 249= []/\b 250= []/\b 251= [4]/\b 252= [3]/\b 253= []/\b 256= []/\b 285= []/\b 286= []/\b 287= [9]/\b 288= []/\b 291= []/\b 292= []/\b 293= []/\b 294= []/\b 295= [2,5]/\b 296= []/\b 297= []/\b 298= []/\b 299= [5,6,7,8,9,11,17]/\b 300= []/\b 301= [8,9]/\b 303= []/\b 304= []/\b 305= []/\b 312= []/\b 313= []/\b 349= []:=by and_intros<;>kernel_rfl
abbrev c (f r:Nat) (h:List bV):Prop:= ∀(a:List Oper) d g b e,hK G d f a.toArray (R f r) g b e=iE G d f a.toArray a h g b e
def HU (d:Option e0) (b:List bV):Bool:=match d with
 |some d=>d.dV.all (λa=> !rC a)&&(d.rs.isEmpty&& !d.aK)
 |none=>false
theorem s_ {f r:Nat} {b:List bV} (a:HU (R f r) b=true) (d:(R f r).map (·.dV)=some b):c f r b:=λj l k g i=>by
 unfold HU at a
 cases e:R f r with
 |none=>rw [e] at a;cases a
 | some h=>
   rw [e] at a d;simp only [br,CY,oV] at a;rw [Sj _ _ _ j h k g i a.1 a.2.1 a.2.2];cases d;rfl
@[go_sem] theorem aet:c 3 9 [.plain,.plain,.plain,.loc 9,.loc 3,.heap,.plain,.plain,.plain,.plain,.loc 7,.plain,.plain,.loc 3,.plain,.plain,.plain,.plain,.plain,.plain,.loc 5,.plain,.loc 7,.plain,.m 6,.heap,.plain]/\c 3 14 [.plain,.plain,.plain,.loc 13,.loc 11,.heap,.plain,.plain,.plain,.plain,.loc 3,.plain,.plain,.plain,.plain,.plain,.loc 5,.plain,.loc 3,.plain,.m 6,.heap,.plain,.plain]/\c 5 19 [.loc 13,.plain,.plain,.loc 3,.plain,.plain,.loc 1,.plain,.plain,.plain,.plain,.m 0,.heap,.plain,.plain,.plain,.loc 13,.plain,.plain,.loc 13,.plain,.plain,.plain,.plain]/\c 10 4 [.plain,.loc 2,.heap,.loc 3,.heap,.plain,.plain,.loc 4,.plain]/\c 14 4 [.plain,.loc 2,.heap,.loc 3,.heap,.plain,.plain,.loc 4,.plain]/\c 18 6 [.plain,.loc 6,.plain,.loc 3,.plain,.plain,.plain,.m 0,.plain,.plain,.plain,.loc 6,.plain,.loc 3,.plain,.plain,.plain,.m 0,.plain,.plain]/\c 18 12 [.plain,.loc 8,.plain,.loc 3,.plain,.plain,.plain,.m 0,.plain,.plain,.plain,.loc 8,.plain,.loc 3,.plain,.plain,.plain,.m 0,.plain,.plain]/\c 18 18 [.plain,.loc 10,.plain,.loc 3,.plain,.plain,.plain,.m 0,.plain,.plain,.plain,.loc 10,.plain,.loc 3,.plain,.plain,.plain,.m 0,.plain,.plain]/\c 18 30 [.plain,.loc 15,.plain,.loc 13,.plain,.plain,.plain,.m 0,.plain,.plain,.plain,.loc 15,.plain,.loc 13,.plain,.plain,.plain,.m 0,.plain,.plain]/\c 19 6 [.plain,.loc 2,.plain,.plain,.m 0,.plain,.loc 3,.plain,.plain,.m 0,.plain]/\c 19 12 [.plain,.loc 2,.plain,.plain,.m 0,.plain,.loc 3,.plain,.plain,.m 0,.plain]/\c 28 4 [.plain,.aI,.plain,.loc 9,.plain,.plain,.m 0,.loc 5,.heap,.plain,.plain]/\c 30 6 [.plain,.plain,.plain,.m 0,.plain,.plain,.plain,.m 0,.heap,.plain]/\c 31 15 [.plain,.loc 3,.heap,.plain,.loc 3,.heap,.plain,.plain,.loc 2,.plain,.loc 3,.heap,.plain,.plain,.plain]/\c 33 4 [.heap,.plain,.loc 1,.heap,.plain,.loc 1,.heap,.plain,.plain]:=by and_intros<;>exact s_ aq aq
@[go_sem] theorem aeu:c 34 5 [.plain,.plain,.loc 5,.plain,.loc 5,.heap,.heap,.plain,.loc 5,.heap,.plain]/\c 34 7 [.heap,.plain,.loc 1,.heap,.plain,.loc 1,.heap,.plain,.plain]/\c 34 18 [.plain,.plain,.loc 11,.heap,.heap,.plain,.loc 11,.heap,.plain]/\c 36 7 [.loc 1,.plain,.loc 1,.heap,.plain,.heap,.plain]/\c 37 6 [.plain,.loc 6,.plain,.loc 3,.plain,.plain,.plain,.m 0,.heap,.plain,.plain,.plain,.loc 6,.plain,.loc 3,.plain,.plain,.plain,.m 9,.heap,.plain,.plain,.plain,.plain,.loc 6,.plain,.loc 3,.plain,.plain,.plain,.m 20,.heap,.plain,.plain]/\c 37 12 [.plain,.loc 2,.plain,.plain,.m 0,.plain,.loc 3,.plain,.plain,.m 0,.heap,.plain]/\c 38 6 [.plain,.plain,.plain,.m 0,.plain,.plain,.plain,.m 0,.plain]/\c 48 2 [.heap,.plain,.loc 1,.heap,.heap,.plain,.plain]/\c 48 10 [.plain,.plain,.plain,.m 0,.plain,.loc 7,.loc 7,.heap]/\c 48 15 [.plain,.plain,.plain,.m 0,.plain,.loc 9,.loc 9,.heap]/\c 51 8 [.plain,.loc 7,.loc 9,.plain,.heap,.heap,.heap,.plain,.loc 7]/\c 51 13 [.plain,.loc 7,.loc 11,.plain,.heap,.plain,.heap,.plain,.loc 7]/\c 53 1 [.plain,.loc 1,.heap,.plain,.loc 1,.heap,.plain,.loc 1,.plain,.loc 1]/\c 55 5 [.loc 3,.plain,.loc 4,.plain,.plain,.heap,.plain,.loc 7,.loc 4,.plain,.heap,.plain,.plain,.heap,.heap,.heap,.plain,.loc 4,.plain,.heap,.heap,.heap,.loc 7,.aI,.heap,.heap,.heap,.loc 6]/\c 58 3 [.plain,.loc 7,.plain,.loc 7,.plain,.plain,.plain]:=by and_intros<;>exact s_ aq aq
@[go_sem] theorem aev:c 58 6 [.plain,.loc 9,.plain,.loc 9,.plain,.plain,.plain]/\c 60 2 [.plain,.loc 2,.plain,.plain,.heap,.plain,.plain,.plain,.loc 2,.plain,.loc 4]/\c 64 4 [.plain,.loc 1,.heap,.plain,.plain,.plain,.loc 1,.plain,.heap,.plain,.plain,.plain,.plain,.loc 1,.heap,.plain,.loc 1,.heap,.heap,.heap,.plain,.plain]/\c 65 5 [.plain,.plain,.plain,.m 0,.plain,.plain,.loc 3,.heap,.plain,.plain,.plain,.plain,.loc 6,.plain]/\c 65 18 [.plain,.plain,.plain,.m 0,.loc 11,.heap,.plain]/\c 66 1 [.plain,.plain,.plain,.plain,.m 0,.plain,.plain,.plain,.plain,.m 0,.heap,.heap,.plain,.plain]/\c 66 7 [.plain,.plain,.plain,.m 0,.plain,.loc 4,.heap,.plain,.plain]/\c 67 1 [.plain,.plain,.plain,.m 0,.plain,.plain,.plain,.plain,.m 0,.heap,.plain]/\c 67 6 [.plain,.plain,.plain,.plain,.m 0,.plain,.plain,.plain,.plain,.plain,.m 0,.plain,.plain,.plain]/\c 67 18 [.plain,.loc 12,.plain,.plain,.plain,.plain,.plain,.plain,.m 0,.plain,.loc 12,.heap,.plain]/\c 68 11 [.plain,.plain,.loc 11,.heap,.heap,.plain,.plain,.loc 11,.heap,.plain,.plain]/\c 69 6 [.plain,.loc 2,.plain,.plain,.m 0,.plain,.loc 3,.plain,.plain,.m 0,.plain]/\c 70 6 [.plain,.plain,.plain,.plain,.m 0,.plain,.plain,.plain,.plain,.m 0,.plain,.plain,.plain,.plain,.plain,.plain,.m 0,.plain,.plain,.plain,.plain,.m 0,.plain,.plain,.plain,.plain,.plain,.plain,.plain,.m 0,.plain,.plain,.plain,.plain,.m 0,.heap,.plain,.plain]/\c 71 13 [.plain,.loc 2,.plain,.plain,.plain,.m 0,.plain,.loc 3,.plain,.plain,.plain,.m 0,.heap,.plain]/\c 71 19 [.plain,.loc 2,.plain,.plain,.m 0,.plain,.loc 3,.plain,.plain,.m 0,.plain]:=by and_intros<;>exact s_ aq aq
@[go_sem] theorem aew:c 74 12 [.plain,.loc 7,.m 0,.loc 11,.heap,.heap,.heap,.plain,.loc 7]/\c 81 8 [.plain,.loc 8,.plain,.plain,.plain,.m 0,.plain,.plain,.plain,.plain,.loc 8,.heap,.plain,.plain]/\c 83 24 [.plain,.loc 3,.plain,.plain,.m 0,.heap,.plain,.plain,.plain,.plain,.plain,.plain,.loc 3,.plain,.plain,.plain,.m 6,.plain,.loc 3,.plain,.plain,.m 6,.heap,.plain,.plain,.plain]/\c 91 5 [.plain,.plain,.plain,.plain,.plain,.plain,.heap,.plain]/\c 99 8 [.plain,.loc 8,.plain,.plain,.plain,.m 0,.plain,.plain,.plain,.plain,.loc 8,.heap,.plain,.plain]/\c 100 5 [.plain,.plain,.plain,.plain,.plain,.plain,.heap,.plain]/\c 105 12 [.plain,.plain,.loc 7,.heap,.heap,.plain,.loc 7,.heap,.plain]/\c 107 5 [.plain,.plain,.loc 5,.plain,.loc 5,.heap,.heap,.plain,.loc 5,.heap,.plain]/\c 107 18 [.plain,.plain,.loc 11,.heap,.heap,.plain,.loc 11,.heap,.plain]/\c 117 1 [.plain,.loc 3,.plain,.plain,.plain,.plain,.loc 3,.heap,.plain,.plain,.plain,.plain,.plain,.plain,.m 8,.plain,.loc 3,.heap,.plain,.plain,.plain,.plain,.plain,.m 18,.plain,.loc 3,.heap,.plain,.loc 3,.heap,.plain,.plain,.plain]/\c 120 2 [.plain,.heap,.plain,.plain,.plain,.m 2,.heap,.plain,.plain,.plain,.m 7,.plain,.plain,.plain,.plain,.plain,.m 7,.plain,.plain,.heap,.plain,.plain,.plain,.plain,.plain,.plain,.plain,.m 20,.plain,.m 20,.heap,.plain,.plain]/\c 123 4 [.plain,.plain,.plain,.m 0,.loc 9,.heap,.plain]/\c 132 9 [.plain,.plain,.plain,.m 0,.plain,.m 0,.heap,.plain,.plain,.plain,.m 7,.plain,.plain,.plain,.plain]/\c 135 4 [.plain,.plain,.plain,.plain,.m 0,.plain,.plain,.plain,.loc 7,.plain,.plain,.plain,.plain,.plain,.m 0,.plain,.plain,.plain]/\c 136 6 [.plain,.plain,.plain,.m 0,.plain,.plain,.plain,.m 0,.heap,.plain]:=by and_intros<;>exact s_ aq aq
@[go_sem] theorem aex:c 147 3 [.plain,.plain,.plain,.plain,.plain,.plain,.plain,.plain]/\c 149 5 [.plain,.plain,.loc 7,.heap,.plain,.plain,.loc 7,.heap,.plain,.plain,.loc 7,.heap,.plain,.loc 7,.plain,.loc 7,.plain,.loc 7]/\c 152 1 [.plain,.plain,.loc 3,.heap,.plain,.plain,.loc 3,.heap,.plain,.loc 3,.plain,.loc 3,.plain,.plain,.loc 5]/\c 152 7 [.plain,.plain,.loc 7,.heap,.plain,.plain,.loc 7,.heap,.plain,.plain,.loc 7,.heap,.plain,.loc 7,.plain,.loc 7,.plain,.loc 7]/\c 152 13 [.plain,.loc 5,.plain,.plain,.loc 9,.heap,.plain,.heap,.heap,.plain,.loc 5]/\c 152 18 [.plain,.loc 5,.plain,.plain,.heap,.heap,.heap,.plain,.loc 5]/\c 159 1 [.plain,.loc 2,.plain,.loc 3,.heap,.plain,.loc 2,.plain,.loc 3,.heap,.plain,.loc 2,.plain,.loc 3,.heap,.plain,.loc 2,.plain,.loc 3,.heap,.heap,.heap,.plain]/\c 159 4 [.plain,.loc 2,.plain,.loc 3,.heap,.plain,.loc 2,.plain,.loc 3,.heap,.heap,.heap,.plain]/\c 160 11 [.loc 4,.plain,.loc 11,.plain,.loc 7,.plain,.plain,.m 0,.heap,.plain]/\c 160 18 [.loc 4,.plain,.loc 13,.plain,.loc 7,.plain,.plain,.plain,.heap,.plain]/\c 161 3 [.plain,.loc 4,.plain,.loc 4,.loc 7,.heap,.plain,.loc 6,.heap,.plain]/\c 191 1 [.plain,.plain,.plain,.m 0,.loc 3,.heap,.plain]/\c 223 11 [.plain,.loc 8,.plain,.m 0,.plain,.loc 10,.heap,.plain,.plain,.heap]/\c 224 1 [.plain,.loc 1,.heap,.plain,.loc 1,.heap,.plain,.loc 1,.heap,.plain,.loc 1,.plain,.loc 1,.plain,.loc 1]/\c 226 6 [.m 0,.plain,.loc 4,.heap,.plain,.plain,.loc 4,.heap,.plain,.loc 4,.plain,.loc 4]:=by and_intros<;>exact s_ aq aq
@[go_sem] theorem aey:c 231 19 [.plain,.loc 1,.plain,.loc 1,.plain,.loc 3,.plain,.loc 3]/\c 237 14 [.plain,.loc 4,.loc 15,.plain,.loc 6,.plain,.plain,.m 0,.plain,.loc 6,.plain,.plain,.plain,.m 0,.loc 7,.heap,.heap,.plain]/\c 237 27 [.plain,.loc 19,.plain,.loc 7,.plain,.plain,.plain,.m 0,.plain,.loc 7,.plain,.plain,.plain,.plain,.m 0,.heap,.heap,.plain,.loc 19]/\c 239 2 [.plain,.heap,.plain,.plain,.loc 5,.plain,.aI,.heap,.plain]/\c 250 6 [.plain,.plain,.plain,.m 0,.plain,.plain,.plain,.m 0,.plain]/\c 253 6 [.plain,.plain,.plain,.m 0,.plain,.plain,.plain,.plain,.m 0,.plain]/\c 253 11 [.plain,.plain,.plain,.m 0,.plain,.plain,.plain,.plain,.m 0,.plain]/\c 299 16 [.loc 5,.plain,.loc 8,.plain,.loc 9,.plain,.plain,.plain,.plain,.m 0,.heap,.plain,.plain]:=by and_intros<;>exact s_ aq aq
abbrev k8 (f r:Nat) (g:List bV):Prop:= ∀(a:List Oper) c e b d,hK G c f a.toArray (R f r) e b d=B8 (hE G c f a.toArray a g [] [] e b d) (yh G c f a.toArray (R f r) e b d)
abbrev nH (f r n:Nat) (g:List bV):Prop:= ∀(a:List Oper) c e b d,yd a=true->Nat.beq a.length n=true->hK G c f a.toArray (R f r) e b d=pX (h0 G c f a.toArray a g e b d) (yh G c f a.toArray (R f r) e b d)
def H0 (d:Option e0):Bool:=match d with
 |some d=>d.rs.isEmpty
 |none=>false
def HZ (d:Option e0) (n:Nat):Bool:=match d with
 |some d=>d.dV.all (λa=> !rC a)&&(d.rs.isEmpty&&d.aK&&Nat.beq d.dV.length n)
 |none=>false
theorem Sd {f r:Nat} {b:List bV} (a:H0 (R f r)=true) (c:(R f r).map (·.dV)=some b):k8 f r b:=λi k j e h=>by
 unfold H0 at a
 cases d:R f r with
 |none=>rw [d] at a;cases a
 | some g=>
   rw [d] at a c;rw [Sh _ _ _ i g j e h (CY.1 a)];cases c;rfl
theorem Sc {f r n:Nat} {b:List bV} (a:HZ (R f r) n=true) (c:(R f r).map (·.dV)=some b):nH f r n b:=λp s q e h m o=>by
 unfold HZ at a
 cases d:R f r with
 |none=>rw [d] at a;cases a
 | some g=>
   rw [d] at a c;simp only [br,CY] at a;obtain ⟨i,⟨j,k⟩,l⟩:=a;rw [Si _ _ _ p g q e h i j k (by rw [gk o,gk l];exact Nat.beq_refl _) m];cases c;rfl
@[go_sem] theorem aez:k8 6 8 [.plain,.loc 5,.plain,.plain,.plain,.plain,.loc 3,.plain,.plain,.plain,.plain,.plain,.loc 5,.plain,.m 0,.heap,.plain,.loc 3,.plain,.read [0,16],.heap,.plain,.plain]/\k8 48 5 [.plain,.plain,.plain,.read [0,8],.plain,.loc 1,.plain,.heap,.heap]/\k8 54 11 [.loc 3,.plain,.loc 4,.plain,.plain,.heap,.plain,.plain,.loc 4,.plain,.heap,.aI,.heap,.plain,.plain,.plain,.plain,.read [0,6,11,13,21,24],.loc 4,.plain,.heap,.plain,.plain,.heap,.heap,.heap,.plain,.heap,.loc 6]/\k8 74 3 [.m 0,.plain,.loc 2,.heap,.plain,.loc 2,.read [0,4],.plain,.heap,.read [0,4,9],.plain,.loc 2,.heap,.read [0,4,9,13],.plain,.loc 2,.heap,.read [0,4,9,13,17],.plain,.loc 2,.heap,.read [0,4,9,13,17,21],.plain,.loc 2,.heap,.read [0,4,9,13,17,21,25],.plain,.loc 2,.heap,.plain,.plain,.loc 7]/\k8 74 7 [.plain,.loc 7,.m 0,.plain,.loc 9,.heap,.read [0,6],.plain,.loc 9,.heap,.read [0,6,10],.plain,.loc 9,.heap,.plain,.loc 9,.plain,.loc 9,.plain,.heap,.heap,.plain,.loc 7]/\k8 83 17 [.plain,.plain,.loc 10,.heap,.plain,.loc 7,.plain,.plain,.read [0,4],.heap,.plain]/\k8 128 1 [.plain,.plain,.plain,.read [0,7],.plain,.loc 8,.heap,.plain,.heap,.plain]/\k8 148 3 [.m 0,.plain,.loc 3,.m 0,.heap,.read [0,5],.plain,.loc 3,.read [0,5],.heap,.plain,.plain,.loc 3,.heap,.plain,.plain,.loc 3,.heap,.plain,.plain,.loc 9]/\k8 148 7 [.plain,.loc 9,.m 0,.plain,.loc 11,.heap,.read [0,6],.plain,.loc 11,.heap,.plain,.heap,.heap,.plain,.loc 9]/\k8 184 17 [.plain,.plain,.loc 11,.heap,.plain,.loc 7,.plain,.plain,.read [0,4],.heap,.plain]/\k8 187 7 [.m 0,.read [0,3],.heap,.heap]/\k8 223 6 [.m 0,.plain,.loc 8,.heap,.read [0,4],.plain,.loc 8,.read [0,4],.heap,.read [0,4,9],.plain,.loc 8,.heap,.plain,.loc 8,.plain,.loc 8,.plain,.loc 8]:=by and_intros<;>exact Sd aq aq
@[go_sem] theorem aem:nH 65 8 12 [.plain,.loc 4,.plain,.plain,.loc 3,.plain,.loc 3,.heap,.plain,.loc 3,.heap,.heap]/\nH 65 12 6 [.plain,.plain,.plain,.m 0,.loc 9,.heap]/\nH 65 22 7 [.loc 4,.plain,.plain,.loc 3,.heap,.heap,.heap]/\nH 67 2 7 [.loc 2,.plain,.plain,.plain,.plain,.m 0,.heap]/\nH 67 5 7 [.loc 2,.plain,.plain,.plain,.plain,.m 0,.heap]/\nH 67 7 7 [.loc 2,.plain,.plain,.plain,.plain,.m 0,.heap]/\nH 68 10 7 [.plain,.loc 11,.plain,.loc 4,.plain,.plain,.heap]/\nH 68 19 6 [.loc 6,.plain,.heap,.plain,.heap,.heap]/\nH 135 14 15 [.plain,.loc 4,.plain,.loc 5,.loc 11,.plain,.plain,.plain,.plain,.m 0,.plain,.plain,.plain,.m 0,.heap]:=by and_intros<;>exact Sc aq aq
@[go_sem] theorem xj:n G 134=some ⟨1,false,.mp 9 22⟩:=aq
@[go_sem] theorem xk:n G 135=some ⟨1,false,.mp 9 52⟩:=aq
@[go_sem] theorem FN:n G 218=some ⟨1,false,.mp 166 4⟩:=aq
@[go_sem] theorem FO:n G 219=some ⟨1,false,.mp 9 4⟩:=aq
@[go_sem] theorem FP:n G 226=some ⟨1,false,.mp 9 9⟩:=aq
@[go_sem] theorem FQ:n G 275=some ⟨1,false,.mp 3 4⟩:=aq
@[go_sem] theorem z3:bN G 3=some (.int .i64 0):=aq
@[go_sem] theorem z4:bN G 4=some (.bool false):=aq
@[go_sem] theorem z9:bN G 9=some (.str 0 0):=aq
@[go_sem] theorem z22:bN G 22=some .V:=aq
@[go_sem] theorem acf:bN G 35=some (.agg [(.int .i64 0),(.int .i64 0),(.str 0 0),(.str 0 0),.V,.V]):=aq
@[go_sem] theorem NI:bN G 52=some (.agg [(.str 0 0),.V,(.str 0 0),.V,(.int .i64 0),(.int .i64 0),.V]):=aq
@[go_sem] theorem acg:bN G 83=some (.agg [(.str 0 0),(.str 0 0),(.int .i64 0),(.int .i64 0),(.str 0 0),(.str 0 0),.V,.V,(.int .i64 0),(.int .i64 0)]):=aq
@[go_sem] theorem aed (l):pR G 35 (.agg l) 4=l[4]? :=aq
@[go_sem] theorem aee (l):pR G 52 (.agg l) 0=l[0]? :=aq
@[go_sem] theorem aef (l):pR G 78 (.agg l) 0=l[0]? :=aq
def isLet (b:Nat):Bool:=decide (97<=b)&&decide (b<=122)||decide (65<=b)&&decide (b<=90)
def qd (b:Nat):Bool:=isLet b||decide (48<=b)&&decide (b<=57)||decide (b=95)
def DC (b:Nat):K 170 [.int .u8 b] (.bool (isLet b)):=by
 refine C.run (m:=16) rfl rfl rfl rfl rfl rfl rfl rfl 0 λf g _ _ d c=> ?_;simp only [go_sem]
 iterate 4 all_goals try (refine e.aE ?_ ?_<;>intro a<;>simp only [go_sem,a])
 all_goals exact e.b c (U.refl _) (by rw [jU];simp [isLet] at*;omega)
def Dv (b:Nat):K 171 [.int .u8 b] (.bool (qd b)):=by
 obtain ⟨i,a⟩:=DC b;refine C.run (m:=16) rfl rfl rfl rfl rfl rfl rfl rfl i λj k g h d c=> ?_;have a:=λl=>a j k g h d l c;simp only [go_sem,a]
 iterate 4 all_goals try (refine e.aE ?_ ?_<;>intro f<;>simp only [go_sem,f])
 all_goals exact e.b c (U.refl _) (by rw [jU];simp [qd] at*;simp [*];try omega)
def isName (l m:Nat):Bool:= !decide (l=0)&&decide (l<=40)&&isLet (en m 0)&&(List.range l).all λa=>qd (en m a)
def qn (l m:Nat) (B:T l m):K 103 [.str l m] (.bool (isName l m)):=by
 obtain ⟨D,p⟩:=DC (en m 0);obtain ⟨E,q⟩:=C.all (l:=List.range l) (f:=171) (g:=λa=> [.int .u8 (en m a:Nat)]) (v:=λa=> .bool (qd (en m a))) λa _=>Dv _;refine C.run (m:=27) rfl rfl rfl rfl rfl rfl rfl rfl (D+E+42) λu w H I t c=> ?_;have p:=λh=>p u w ab ab t h c;have q:=λa d h=>q u w ab ab a d t h c;have y:(l==0&&m==0)=decide (l=0):=by rw [jU];simp;exact B.zero
 simp only [go_sem,y];refine e.aE ?_ ?_<;>intro i<;>simp only [go_sem,i]
 . exact e.b c (U.refl _) (by simp at i;simp [isName,i])
 have z:0<l:=by simp at i;omega
 refine e.aE ?_ ?_<;>intro o<;>simp only [go_sem,o,z,p]
 . exact e.b c (U.refl _) (by simp at o;simp [isName];omega)
 have A:l<=40:=by simp at o;omega
 refine e.aE ?_ ?_<;>intro k<;>simp only [go_sem,k]
 rotate_left
 . exact e.b c (U.refl _) (by simp [isName,k])
 generalize G:a1 _ _ _ _ _ _ _ _ _ _=x;revert x;have hF:=trivial;refine dA [0] (λj=> ∀a,a<j->qd (en m a)=true) l (λa d=>by omega) ?_ ?_
 . intro j F h s r hF;simp only [go_sem,hF,s,q j (h9.2 s)];refine au.aE ?_ ?_<;>intro n<;>simp only [go_sem,n]
   . refine au.next () rfl (λa d=> ?_) ay;rcases Nat.lt_succ_iff_lt_or_eq.1 d with d|rfl
     . exact r a d
     . exact n
   . refine au.stop rfl ?_;simp only [go_sem,hF];exact e.b c (U.refl _) (by simp [isName];exact λ_ _ _=>⟨j,s,n⟩)
 . intro F h r hF;simp only [go_sem,hF];exact e.b c (U.refl _) (by simp [isName,k];exact ⟨⟨ab,A⟩,r⟩)
def jk (l m:Nat):Bool:=decide (2<l)&&decide (en m (l-2)=39)&&decide (49<=en m (l-1))&&decide (en m (l-1)<=56)
def e_ (l m:Nat):Nat:=if jk l m then l-2 else l
def fL (l m:Nat):Nat:=if jk l m then m%2^(8*(l-2)) else m
def jM (l m:Nat):Nat:=if jk l m then l-(l-2) else 0
def k5 (l m:Nat):Nat:=if jk l m then (m>>>(8*(l-2)))%2^(8*(l-(l-2))) else 0
def Ji (l m:Nat) (s:l<4611686018427387904):K 147 [.str l m] (.av [.str (e_ l m) (fL l m),.str (jM l m) (k5 l m)]):=by
 refine C.run (m:=36) rfl rfl rfl rfl rfl rfl rfl rfl 0 λt u _ _ c f=> ?_;by_cases r:l<=2
 . have g:decide (IntKind.i64.wrap ((l:Int)-2)>0)=false:=by rw [wrap64 _ ab ab];simp;omega
   have b:jk l m=false:=by simp [jk,show¬2<l by omega]
   simp only [go_sem,g];simp only [e_,fL,jM,k5,b];exact e.mk rfl f (U.refl _)
 . have h:IntKind.i64.wrap ((l:Int)-2)=((l-2:Nat):Int):=by rw [wrap64 _ ab ab];omega
   have b:IntKind.i64.wrap (((l-2:Nat):Int)+1)=((l-1:Nat):Int):=by rw [wrap64 _ ab ab];omega
   have i:decide (((l-2:Nat):Int)>0)=true:=da;have j:l-2<l:=ab;have k:l-1<l:=ab;have n:l-2<=l:=ab;have q:decide (2<l)=true:=da;simp only [go_sem,h,i,j]
   iterate 4 all_goals try (refine e.aE ?_ ?_<;>intro o<;>simp only [go_sem,o,b,k,n,L5,L4])
   all_goals
    have d: ∀a,jk l m=a->e (.av [.str (e_ l m) (fL l m),.str (jM l m) (k5 l m)]) c (.ret (if a then .av [.str (l-2) (m%2^(8*(l-2))),.str (l-(l-2)) ((m>>>(8*(l-2)))%2^(8*(l-(l-2))))] else .av [.str l m,.str 0 0]) c):=λa p=>by simp only [e_,fL,jM,k5,p];cases a<;>exact e.mk rfl f (U.refl _)
   all_goals first
    |(refine d true ?_;simp at*;simp [jk, *];omega)
    |(refine d false ?_;simp at*;simp [jk, *];try omega)
def UQ (l m:Nat) (i:T l m) (f:l<4611686018427387904):dt 294 [.str l m] dI bQ:=by
 obtain ⟨j,a⟩:=Ji l m f;obtain ⟨k,b⟩:=qn (e_ l m) (fL l m) (by unfold e_ fL;split;exact T.mod _ _;exact i);refine aL.run (m:=11) rfl rfl rfl rfl rfl rfl rfl rfl (j+k) λg h f n e c=> ?_;have a:=λd=>a g h ab ab e d c;have b:=λd=>b g h ab ab e d c;simp only [go_sem,a,b];exact ak.bW c (U.refl _)
def UP (a:Int):dt 291 [.int .i64 a] dI bQ:=by
 refine aL.run (m:=8) rfl rfl rfl rfl rfl rfl rfl rfl 0 λg h e f d c=> ?_;simp only [go_sem]
 iterate 4 all_goals try (refine ak.aE ?_ ?_<;>intro b<;>simp only [go_sem,b])
 all_goals exact ak.bW c (U.refl _)
def UO (l m:Nat) (h:T l m):dt 293 [.str l m] dI bQ:=by
 obtain ⟨i,b⟩:=qn l m h;refine aL.run (m:=22) rfl rfl rfl rfl rfl rfl rfl rfl i λj k f g e c=> ?_;have b:=λn=>b j k f g e n c;simp only [go_sem,b];refine ak.aE ?_ ?_<;>intro a<;>simp only [go_sem,a]
 . have d:0<l:=by unfold isName at a;simp at a;omega
   simp only [go_sem,d]
   iterate 4 all_goals try (refine ak.aE ?_ ?_<;>intro a<;>simp only [go_sem,a,d])
   all_goals exact ak.bW c (U.refl _)
 . exact ak.bW c (U.refl _)
def jQ {f:Nat} {args:List aa} {ad n:Nat} {H:af} {v:aa} (a:(∃w,w=v/\ ∀tm,az G (X G R ad n) f args H tm= .ok w tm H)\/(∃w,bQ w/\ ∀tm,az G (X G R ad n) f args H tm= .aK w H)): ∀tm,az G (X G R ad n) f args H tm= .ok v tm H:=by
 rcases a with ⟨w,rfl,b⟩|⟨w,a,-⟩
 . exact b
 . exact a.elim
def MR: ∀ad n,1<=ad->1<=n-> ∀p:Nat×Nat,p.1<4611686018427387904-> ∀H tm,Tidy H->az G (X G R ad n) 147 [.str p.1 p.2] H tm= .ok (.av [.str (e_ p.1 p.2) (fL p.1 p.2),.str (jM p.1 p.2) (k5 p.1 p.2)]) tm H:=by
 intro ad n _ w p s H tm j;obtain ⟨a,b⟩:=p;simp only at s|-;obtain ⟨n,rfl⟩:=bY n;refine jQ ?_ tm;refine aL.at (S:=λt=>t= .av [.str (e_ a b) (fL a b),.str (jM a b) (k5 a b)]) (N:=bQ) (m:=36) rfl rfl rfl rfl rfl rfl rfl rfl (.inl ⟨_,rfl,?_⟩);by_cases v:a<=2
 . have k:decide (IntKind.i64.wrap ((a:Int)-2)>0)=false:=by rw [wrap64 _ ab ab];simp;omega
   have d:jk a b=false:=by simp [jk,show¬2<a by omega]
   simp only [go_sem,k];simp only [e_,fL,jM,k5,d];exact e.mk rfl j (U.refl _)
 . have f:IntKind.i64.wrap ((a:Int)-2)=((a-2:Nat):Int):=by rw [wrap64 _ ab ab];omega
   have d:IntKind.i64.wrap (((a-2:Nat):Int)+1)=((a-1:Nat):Int):=by rw [wrap64 _ ab ab];omega
   have l:decide (((a-2:Nat):Int)>0)=true:=da;have g:a-2<a:=ab;have h:a-1<a:=ab;have o:a-2<=a:=ab;have u:decide (2<a)=true:=da;simp only [go_sem,f,d,l,g,h]
   iterate 4 all_goals try (refine e.aE ?_ ?_<;>intro q<;>simp only [go_sem,q,f,d,g,h,o,L5,L4])
   all_goals
    have i: ∀c,jk a b=c->e (.av [.str (e_ a b) (fL a b),.str (jM a b) (k5 a b)]) H (.ret (if c then .av [.str (a-2) (b%2^(8*(a-2))),.str (a-(a-2)) ((b>>>(8*(a-2)))%2^(8*(a-(a-2))))] else .av [.str a b,.str 0 0]) H):=λc r=>by simp only [e_,fL,jM,k5,r];cases c<;>exact e.mk rfl j (U.refl _)
   all_goals first
    |(refine i true ?_;simp at*;simp [jk, *];omega)
    |(refine i false ?_;simp at*;simp [jk, *];try omega)
def ni (p:List aa->Bool) (rows:Y) (n:Int):Prop:=(n= -1/\rows.any p=false)\/(∃a:Nat,n=a/\a<rows.length/\rows.any p=true)
def oT {P:Int->Prop} {f:Nat} {args:List aa} {ad n:Nat} {H:af} (a:(∃v,(∃i,v= .int .i64 i/\P i)/\ ∀tm,az G (X G R ad n) f args H tm= .ok v tm H)\/(∃v,bQ v/\ ∀tm,az G (X G R ad n) f args H tm= .aK v H)):
    ∃i,P i/\ ∀tm,az G (X G R ad n) f args H tm= .ok (.int .i64 i) tm H:=by
 rcases a with ⟨v,⟨i,rfl,c⟩,b⟩|⟨v,a,-⟩
 . exact ⟨i,c,b⟩
 . exact a.elim
def fa {b:Bool} {f:Nat} {args:List aa} {ad n:Nat} {H:af} (a:(∃v,v= .bool b/\ ∀tm,az G (X G R ad n) f args H tm= .ok v tm H)\/(∃v,bQ v/\ ∀tm,az G (X G R ad n) f args H tm= .aK v H)):
    ∀tm,az G (X G R ad n) f args H tm= .ok (.bool b) tm H:=by
 rcases a with ⟨v,rfl,c⟩|⟨v,a,-⟩
 . exact c
 . exact a.elim
def nr {p:List aa->Bool} {rows:Y} {j:Nat} {r} (a:rows[j]? =some r) (b:(rows.take j).any p=false) (g:p r=false):(rows.take (j+1)).any p=false:=by
 rw [fg,a];simp [b,g]
def UF (x fv:aa) (rows:Y) (p:List aa->Bool) (a:F x rows) (u: ∀r∈rows,r.length=7) (A:rows.length<4611686018427387904) (q:aD fv=true) (s: ∀t,O t fv=fv)
    (ad n:Nat) (z:rows.length<ad) (H:af) (j:Tidy H) (o: ∀r∈rows,∀tm,cx G (X G R ad n) fv [.agg r] H tm= .ok (.bool (p r)) tm H): ∃i,ni p rows i/\ ∀tm,az G (X G R ad (n+1)) 77 [x,fv] H tm= .ok (.int .i64 i) tm H:=by
 refine oT (aL.at (m:=17) rfl rfl rfl rfl rfl (by simp only [aO,a.aD,q];rfl) rfl rfl ?_);simp only [go_sem,a.O,a.len];generalize y:a1 _ _ _ _ _ _ _ _ _ _=l;revert l;have hF:=trivial;refine dA [0,1] (λc=>(rows.take c).any p=false) rows.length rfl ?_ ?_
 . intro c w tm h b hF;obtain ⟨r,f⟩:=bA h;have e:=aV f;have g:=u r e;have v:r.take 7=r:=by rw [<-g,bX]
   simp only [go_sem,hF,a.O,s,a.a_ (k:=7) f g,g,v,o r e];refine au.aE ?_ ?_<;>intro d<;>simp only [go_sem,hF,d]
   . refine au.stop rfl ?_;simp only [go_sem,hF];exact ak.mk ⟨c,rfl,.inr ⟨c,rfl,h,kB.2 ⟨r,e,d⟩⟩⟩ rfl j (U.refl _)
   . exact au.next () rfl (nr f b d) ay
 . intro w tm b hF;rw [bX] at b;simp only [go_sem,hF];exact ak.mk ⟨-1,rfl,.inl ⟨rfl,b⟩⟩ rfl j (U.refl _)
def UJ (x fv:aa) (rows:Y) (p:List aa->Bool) (a:F x rows) (u: ∀r∈rows,r.length=6) (A:rows.length<4611686018427387904) (q:aD fv=true) (s: ∀t,O t fv=fv)
    (ad n:Nat) (z:rows.length<ad) (H:af) (j:Tidy H) (o: ∀r∈rows,∀tm,cx G (X G R ad n) fv [.agg r] H tm= .ok (.bool (p r)) tm H): ∃i,ni p rows i/\ ∀tm,az G (X G R ad (n+1)) 173 [x,fv] H tm= .ok (.int .i64 i) tm H:=by
 refine oT (aL.at (m:=17) rfl rfl rfl rfl rfl (by simp only [aO,a.aD,q];rfl) rfl rfl ?_);simp only [go_sem,a.O,a.len];generalize y:a1 _ _ _ _ _ _ _ _ _ _=l;revert l;have hF:=trivial;refine dA [0,1] (λc=>(rows.take c).any p=false) rows.length rfl ?_ ?_
 . intro c w tm h b hF;obtain ⟨r,f⟩:=bA h;have e:=aV f;have g:=u r e;have v:r.take 6=r:=by rw [<-g,bX]
   simp only [go_sem,hF,a.O,s,a.a_ (k:=6) f g,g,v,o r e];refine au.aE ?_ ?_<;>intro d<;>simp only [go_sem,hF,d]
   . refine au.stop rfl ?_;simp only [go_sem,hF];exact ak.mk ⟨c,rfl,.inr ⟨c,rfl,h,kB.2 ⟨r,e,d⟩⟩⟩ rfl j (U.refl _)
   . exact au.next () rfl (nr f b d) ay
 . intro w tm b hF;rw [bX] at b;simp only [go_sem,hF];exact ak.mk ⟨-1,rfl,.inl ⟨rfl,b⟩⟩ rfl j (U.refl _)
def UG (x fv:aa) (rows:Y) (p:List aa->Bool) (a:F x rows) (u: ∀r∈rows,r.length=11) (A:rows.length<4611686018427387904) (q:aD fv=true) (s: ∀t,O t fv=fv)
    (ad n:Nat) (z:rows.length<ad) (H:af) (j:Tidy H) (o: ∀r∈rows,∀tm,cx G (X G R ad n) fv [.agg r] H tm= .ok (.bool (p r)) tm H): ∃i,ni p rows i/\ ∀tm,az G (X G R ad (n+1)) 256 [x,fv] H tm= .ok (.int .i64 i) tm H:=by
 refine oT (aL.at (m:=17) rfl rfl rfl rfl rfl (by simp only [aO,a.aD,q];rfl) rfl rfl ?_);simp only [go_sem,a.O,a.len];generalize y:a1 _ _ _ _ _ _ _ _ _ _=l;revert l;have hF:=trivial;refine dA [0,1] (λc=>(rows.take c).any p=false) rows.length rfl ?_ ?_
 . intro c w tm h b hF;obtain ⟨r,f⟩:=bA h;have e:=aV f;have g:=u r e;have v:r.take 11=r:=by rw [<-g,bX]
   simp only [go_sem,hF,a.O,s,a.a_ (k:=11) f g,g,v,o r e];refine au.aE ?_ ?_<;>intro d<;>simp only [go_sem,hF,d]
   . refine au.stop rfl ?_;simp only [go_sem,hF];exact ak.mk ⟨c,rfl,.inr ⟨c,rfl,h,kB.2 ⟨r,e,d⟩⟩⟩ rfl j (U.refl _)
   . exact au.next () rfl (nr f b d) ay
 . intro w tm b hF;rw [bX] at b;simp only [go_sem,hF];exact ak.mk ⟨-1,rfl,.inl ⟨rfl,b⟩⟩ rfl j (U.refl _)
def UC (x fv:aa) (rows:Y) (p:List aa->Bool) (a:F x rows) (u: ∀r∈rows,r.length=2) (A:rows.length<4611686018427387904) (q:aD fv=true) (s: ∀t,O t fv=fv)
    (ad n:Nat) (z:rows.length<ad) (H:af) (j:Tidy H) (o: ∀r∈rows,∀tm,cx G (X G R ad n) fv [.agg r] H tm= .ok (.bool (p r)) tm H): ∃i,ni p rows i/\ ∀tm,az G (X G R ad (n+1)) 245 [x,fv] H tm= .ok (.int .i64 i) tm H:=by
 refine oT (aL.at (m:=17) rfl rfl rfl rfl rfl (by simp only [aO,a.aD,q];rfl) rfl rfl ?_);simp only [go_sem,a.O,a.len];generalize y:a1 _ _ _ _ _ _ _ _ _ _=l;revert l;have hF:=trivial;refine dA [0,1] (λc=>(rows.take c).any p=false) rows.length rfl ?_ ?_
 . intro c w tm h b hF;obtain ⟨r,f⟩:=bA h;have e:=aV f;have g:=u r e;have v:r.take 2=r:=by rw [<-g,bX]
   simp only [go_sem,hF,a.O,s,a.a_ (k:=2) f g,g,v,o r e];refine au.aE ?_ ?_<;>intro d<;>simp only [go_sem,hF,d]
   . refine au.stop rfl ?_;simp only [go_sem,hF];exact ak.mk ⟨c,rfl,.inr ⟨c,rfl,h,kB.2 ⟨r,e,d⟩⟩⟩ rfl j (U.refl _)
   . exact au.next () rfl (nr f b d) ay
 . intro w tm b hF;rw [bX] at b;simp only [go_sem,hF];exact ak.mk ⟨-1,rfl,.inl ⟨rfl,b⟩⟩ rfl j (U.refl _)
def UE (x fv:aa) (rows:Y) (p:List aa->Bool) (a:F x rows) (w: ∀r∈rows,r.length=1) (B:rows.length<4611686018427387904) (s:aD fv=true) (u: ∀t,O t fv=fv)
    (v: ∀r∈rows,∀t,O t (M r 0)=M r 0)
    (ad n:Nat) (A:rows.length<ad) (H:af) (o:Tidy H) (b: ∀r∈rows,∀tm,cx G (X G R ad n) fv [M r 0] H tm= .ok (.bool (p r)) tm H): ∃i,ni p rows i/\ ∀tm,az G (X G R ad (n+1)) 312 [x,fv] H tm= .ok (.int .i64 i) tm H:=by
 refine oT (aL.at (m:=17) rfl rfl rfl rfl rfl (by simp only [aO,a.aD,s];rfl) rfl rfl ?_);simp only [go_sem,a.O,a.len];generalize z:a1 _ _ _ _ _ _ _ _ _ _=q;revert q;have hF:=trivial;refine dA [0,1] (λe=>(rows.take e).any p=false) rows.length rfl ?_ ?_
 . intro e y tm j c hF;obtain ⟨r,g⟩:=bA j;have d:=aV g;have l:=w r d;obtain ⟨C,rfl⟩:=CZ.1 l;have b:=b _ d;have h:=v _ d;simp only [jj] at b h;simp only [go_sem,hF,a.O,u,a.a_ (k:=1) g l,h,b];refine au.aE ?_ ?_<;>intro f<;>simp only [go_sem,hF,f]
   . refine au.stop rfl ?_;simp only [go_sem,hF];exact ak.mk ⟨e,rfl,.inr ⟨e,rfl,j,kB.2 ⟨_,d,f⟩⟩⟩ rfl o (U.refl _)
   . exact au.next () rfl (nr g c f) ay
 . intro y tm c hF;rw [bX] at c;simp only [go_sem,hF];exact ak.mk ⟨-1,rfl,.inl ⟨rfl,c⟩⟩ rfl o (U.refl _)
def UI (x fv:aa) (rows:Y) (p:List aa->Bool) (a:F x rows) (w: ∀r∈rows,r.length=1) (B:rows.length<4611686018427387904) (s:aD fv=true) (u: ∀t,O t fv=fv)
    (v: ∀r∈rows,∀t,O t (M r 0)=M r 0)
    (ad n:Nat) (A:rows.length<ad) (H:af) (o:Tidy H) (b: ∀r∈rows,∀tm,cx G (X G R ad n) fv [M r 0] H tm= .ok (.bool (p r)) tm H): ∃i,ni p rows i/\ ∀tm,az G (X G R ad (n+1)) 172 [x,fv] H tm= .ok (.int .i64 i) tm H:=by
 refine oT (aL.at (m:=17) rfl rfl rfl rfl rfl (by simp only [aO,a.aD,s];rfl) rfl rfl ?_);simp only [go_sem,a.O,a.len];generalize z:a1 _ _ _ _ _ _ _ _ _ _=q;revert q;have hF:=trivial;refine dA [0,1] (λe=>(rows.take e).any p=false) rows.length rfl ?_ ?_
 . intro e y tm j c hF;obtain ⟨r,g⟩:=bA j;have d:=aV g;have l:=w r d;obtain ⟨C,rfl⟩:=CZ.1 l;have b:=b _ d;have h:=v _ d;simp only [jj] at b h;simp only [go_sem,hF,a.O,u,a.a_ (k:=1) g l,h,b];refine au.aE ?_ ?_<;>intro f<;>simp only [go_sem,hF,f]
   . refine au.stop rfl ?_;simp only [go_sem,hF];exact ak.mk ⟨e,rfl,.inr ⟨e,rfl,j,kB.2 ⟨_,d,f⟩⟩⟩ rfl o (U.refl _)
   . exact au.next () rfl (nr g c f) ay
 . intro y tm c hF;rw [bX] at c;simp only [go_sem,hF];exact ak.mk ⟨-1,rfl,.inl ⟨rfl,c⟩⟩ rfl o (U.refl _)
def Dt (x fv:aa) (rows:Y) (p:List aa->Bool) (b:F x rows) (k: ∀r∈rows,r.length=7) (j:rows.length<4611686018427387904) (c:aD fv=true) (d: ∀t,O t fv=fv)
     (ad n:Nat) (i:rows.length<ad) (H:af) (e:Tidy H) (g: ∀r∈rows,∀tm,cx G (X G R ad n) fv [.agg r] H tm= .ok (.bool (p r)) tm H):
    ∀tm,az G (X G R ad (n+2)) 44 [x,fv] H tm= .ok (.bool (rows.any p)) tm H:=by
 obtain ⟨l,h,f⟩:=UF x fv rows p b k j c d ad n i H e g;refine fa (aL.at (m:=7) rfl rfl rfl rfl rfl (by simp only [aO,b.aD,c];rfl) rfl rfl ?_);simp only [go_sem,b.O,d,f];refine ak.mk ?_ rfl e (U.refl _);rcases h with ⟨rfl,a⟩|⟨o,rfl,-,a⟩
 . rw [a];rfl
 . rw [a];congr 1
def Ut (x fv:aa) (rows:Y) (p:List aa->Bool) (b:F x rows) (k: ∀r∈rows,r.length=6) (j:rows.length<4611686018427387904) (c:aD fv=true) (d: ∀t,O t fv=fv)
     (ad n:Nat) (i:rows.length<ad) (H:af) (e:Tidy H) (g: ∀r∈rows,∀tm,cx G (X G R ad n) fv [.agg r] H tm= .ok (.bool (p r)) tm H):
    ∀tm,az G (X G R ad (n+2)) 106 [x,fv] H tm= .ok (.bool (rows.any p)) tm H:=by
 obtain ⟨l,h,f⟩:=UJ x fv rows p b k j c d ad n i H e g;refine fa (aL.at (m:=7) rfl rfl rfl rfl rfl (by simp only [aO,b.aD,c];rfl) rfl rfl ?_);simp only [go_sem,b.O,d,f];refine ak.mk ?_ rfl e (U.refl _);rcases h with ⟨rfl,a⟩|⟨o,rfl,-,a⟩
 . rw [a];rfl
 . rw [a];congr 1
def I8 (x fv:aa) (rows:Y) (p:List aa->Bool) (b:F x rows) (k: ∀r∈rows,r.length=11) (j:rows.length<4611686018427387904) (c:aD fv=true) (d: ∀t,O t fv=fv)
     (ad n:Nat) (i:rows.length<ad) (H:af) (e:Tidy H) (g: ∀r∈rows,∀tm,cx G (X G R ad n) fv [.agg r] H tm= .ok (.bool (p r)) tm H):
    ∀tm,az G (X G R ad (n+2)) 195 [x,fv] H tm= .ok (.bool (rows.any p)) tm H:=by
 obtain ⟨l,h,f⟩:=UG x fv rows p b k j c d ad n i H e g;refine fa (aL.at (m:=7) rfl rfl rfl rfl rfl (by simp only [aO,b.aD,c];rfl) rfl rfl ?_);simp only [go_sem,b.O,d,f];refine ak.mk ?_ rfl e (U.refl _);rcases h with ⟨rfl,a⟩|⟨o,rfl,-,a⟩
 . rw [a];rfl
 . rw [a];congr 1
def Up (x fv:aa) (rows:Y) (p:List aa->Bool) (b:F x rows) (k: ∀r∈rows,r.length=2) (j:rows.length<4611686018427387904) (c:aD fv=true) (d: ∀t,O t fv=fv)
     (ad n:Nat) (i:rows.length<ad) (H:af) (e:Tidy H) (g: ∀r∈rows,∀tm,cx G (X G R ad n) fv [.agg r] H tm= .ok (.bool (p r)) tm H):
    ∀tm,az G (X G R ad (n+2)) 176 [x,fv] H tm= .ok (.bool (rows.any p)) tm H:=by
 obtain ⟨l,h,f⟩:=UC x fv rows p b k j c d ad n i H e g;refine fa (aL.at (m:=7) rfl rfl rfl rfl rfl (by simp only [aO,b.aD,c];rfl) rfl rfl ?_);simp only [go_sem,b.O,d,f];refine ak.mk ?_ rfl e (U.refl _);rcases h with ⟨rfl,a⟩|⟨o,rfl,-,a⟩
 . rw [a];rfl
 . rw [a];congr 1
def Ur (x fv:aa) (rows:Y) (p:List aa->Bool) (b:F x rows) (l: ∀r∈rows,r.length=1) (j:rows.length<4611686018427387904) (c:aD fv=true) (d: ∀t,O t fv=fv)
    (k: ∀r∈rows,∀t,O t (M r 0)=M r 0) (ad n:Nat) (i:rows.length<ad) (H:af) (e:Tidy H) (g: ∀r∈rows,∀tm,cx G (X G R ad n) fv [M r 0] H tm= .ok (.bool (p r)) tm H):
    ∀tm,az G (X G R ad (n+2)) 247 [x,fv] H tm= .ok (.bool (rows.any p)) tm H:=by
 obtain ⟨o,h,f⟩:=UE x fv rows p b l j c d k ad n i H e g;refine fa (aL.at (m:=7) rfl rfl rfl rfl rfl (by simp only [aO,b.aD,c];rfl) rfl rfl ?_);simp only [go_sem,b.O,d,f];refine ak.mk ?_ rfl e (U.refl _);rcases h with ⟨rfl,a⟩|⟨q,rfl,-,a⟩
 . rw [a];rfl
 . rw [a];congr 1
def Du (x fv:aa) (rows:Y) (p:List aa->Bool) (b:F x rows) (l: ∀r∈rows,r.length=1) (j:rows.length<4611686018427387904) (c:aD fv=true) (d: ∀t,O t fv=fv)
    (k: ∀r∈rows,∀t,O t (M r 0)=M r 0) (ad n:Nat) (i:rows.length<ad) (H:af) (e:Tidy H) (g: ∀r∈rows,∀tm,cx G (X G R ad n) fv [M r 0] H tm= .ok (.bool (p r)) tm H):
    ∀tm,az G (X G R ad (n+2)) 104 [x,fv] H tm= .ok (.bool (rows.any p)) tm H:=by
 obtain ⟨o,h,f⟩:=UI x fv rows p b l j c d k ad n i H e g;refine fa (aL.at (m:=7) rfl rfl rfl rfl rfl (by simp only [aO,b.aD,c];rfl) rfl rfl ?_);simp only [go_sem,b.O,d,f];refine ak.mk ?_ rfl e (U.refl _);rcases h with ⟨rfl,a⟩|⟨q,rfl,-,a⟩
 . rw [a];rfl
 . rw [a];congr 1
def b8 (rows:Y):Prop:= ∀c∈rows,∃a b,c= [.str a b]/\T a b/\a<4611686018427387904
def isStr (l m:Nat):List aa->Bool
 | [.str a b]=>l==a&&m==b
 |_=>false
def UL (x:aa) (rows:Y) (l m:Nat) (a:F x rows) (j:b8 rows) (y:rows.length<4611686018427387904):
    dt 174 [x,.str l m] (λv=> ∃n,v= .int .i64 n/\ni (isStr l m) rows n) bQ:=by
 refine aL.run (m:=17) rfl rfl rfl rfl rfl (by simp only [aO,a.aD];rfl) rfl rfl (rows.length+1) λA n w z r h=> ?_;simp only [go_sem,a.O,a.len];generalize u:a1 _ _ _ _ _ _ _ _ _ _=i;revert i;have hF:=trivial;refine dA [0,1] (λc=>(rows.take c).any (isStr l m)=false) rows.length rfl ?_ ?_
 . intro c p q f b hF;obtain ⟨o,e⟩:=bA f;have g:=aV e;obtain ⟨s,t,rfl,-⟩:=j o g;simp only [go_sem,hF,a.O,a.a_ (k:=1) e rfl];refine au.aE ?_ ?_<;>intro d<;>simp only [go_sem,hF,d]
   . refine au.stop rfl ?_;simp only [go_sem,hF];exact ak.mk ⟨c,rfl,.inr ⟨c,rfl,f,kB.2 ⟨_,g,d⟩⟩⟩ rfl h (U.refl _)
   . exact au.next () rfl (nr e b d) ay
 . intro p q b hF;rw [bX] at b;simp only [go_sem,hF];exact ak.mk ⟨-1,rfl,.inl ⟨rfl,b⟩⟩ rfl h (U.refl _)
def Uu (x:aa) (rows:Y) (l m:Nat) (b:F x rows) (k:b8 rows) (i:rows.length<4611686018427387904):
    K 113 [x,.str l m] (.bool (rows.any (isStr l m))):=by
 obtain ⟨n,f⟩:=UL x rows l m b k i;refine aL.eq (aL.run (m:=7) rfl rfl rfl rfl rfl (by simp only [aO,b.aD];rfl) rfl rfl n λo p h j d c=> ?_);rcases f o p h j d c with ⟨q,⟨r,rfl,g⟩,e⟩|⟨q,a,-⟩
 . simp only [go_sem,b.O,e];refine ak.mk ?_ rfl c (U.refl _);rcases g with ⟨rfl,a⟩|⟨s,rfl,-,a⟩
   . rw [a];rfl
   . rw [a];congr 1
 . exact a.elim
@[go_sem] theorem lA:aW G 9=some .string:=aq
@[go_sem ↓] theorem ad5 (E cf fid d ty pos b1 g tm H) (t x):evalOp E cf fid ⟨d,.range t x,ty,pos,b1,g⟩ tm H=mY (aW E t) (B E tm x) tm H:=rfl
@[go_sem ↓] theorem ad1 (E cf fid d ty pos b1 g tm H) (x s):evalOp E cf fid ⟨d,.next x s,ty,pos,b1,g⟩ tm H=qy s (B E tm x) tm H:=rfl
@[go_sem] theorem af3 (l m tm H):mY (some .string) (.str l m) tm H= .ok (.it H.n) tm (H.push (.iter l m 0)):=by simp [mY]
def Qy {l m a:Nat} (b:a<l):1<=(pL l m a).2:=by
 unfold pL;simp only [];split
 . exact aT 1
 . refine Go.Lib.decode_width_pos _ _ ?_;show a<((unpack l m).map UInt8.ofNat).toArray.size;have: ∀l m,(unpack l m).length=l:=by
    intro l
    induction l with
    |zero=>intro m;rfl
    |succ l c=>intro m;simp [unpack,c]
   simpa [this] using b
@[go_sem] theorem afZ (l m pos tm) (H:af):qy true (.it H.n) tm (H.push (.iter l m pos))=if pos<l then .ok (.av [.bool true,.int .i64 pos,.int .i32 ((pL l m pos).1:Nat)]) tm (H.push (.iter l m (pos+(pL l m pos).2))) else .ok (.av [.bool false]) tm (H.push (.iter l m pos)):=by
 simp only [qy,rV,dL,wj];split
 . cases b:pL l m pos with
   |mk a c=>simp [o_]
 . rfl
def US (l m:Nat):dt 292 [.str l m] dI bQ:=by
 refine aL.run (m:=26) rfl rfl rfl rfl rfl rfl rfl rfl (l+1) λr s o p d e=> ?_;simp only [go_sem];generalize i:a1 _ _ _ _ _ _ _ _ _ _=h;revert h;refine rP _ _ _ _ (λc f g=> ∃b,c<=b/\g=d.push (.iter l m b)/\aM 27 [(0,.str l m),(6,.it d.n)] f) l ab ⟨0,aT _,rfl,dC⟩ ?_;rintro c f _ k ⟨b,q,rfl,hF⟩;by_cases a:b<l
 . have j:=Qy (m:=m) a;simp only [go_sem,hF,a]
   iterate 4 all_goals try (refine dy.aE ?_ ?_<;>intro a<;>simp only [go_sem,hF,a])
   all_goals first
    |exact dy.stop rfl (by simp only [go_sem,hF];exact ak.bW e ((U.refl _).push _))
    |exact dy.next (by show c<l;omega) ⟨_,ab,rfl,ay⟩
 . simp only [go_sem,hF,a];exact dy.stop rfl (by simp only [go_sem,hF];exact ak.bW e ((U.refl _).push _))
def eD:Y:= [[.str 3 7958081],[.str 3 7630409],[.str 4 1819242306],[.str 4 1954047316],[.str 2 25673],[.str 4 1953720652],[.str 3 7364941]]
def AT:b8 eD:=λb a=>by
 simp only [eD,b2,dG,or_false] at a;rcases a with rfl|rfl|rfl|rfl|rfl|rfl|rfl<;>exact ⟨_,_,rfl,by unfold T;decide,al⟩
def Jj:K 80 [] (.A eD true):=by
 refine C.run (m:=2) rfl rfl rfl rfl rfl rfl rfl rfl 0 λf g c d b a=> ?_;simp only [go_sem];exact e.mk rfl a (U.refl _)
@[go_sem] theorem builtin_cap (E t x tm H):hy E .cap [t] [x] tm H=bb (q_ E t x) tm H:=rfl
@[go_sem] theorem ahi (k fD):fG k .V none (some (.int fD 0)) none=some .V:=rfl
@[go_sem] theorem ahj (k id gen N fD):fG k (.ref id gen 0 k (N+1) false) none (some (.int fD 0)) none=some (.ref id gen 0 k 0 false):=by have a:Nat.beq k k=true:=ai;simp only [fG,a];simp [l4,ey]
def Mw (L:List Y) (j:Nat):L.flatten=(L.take j).flatten++(L.drop j).flatten:=by rw [<-List.flatten_append,yT]
def uw (L:List Y) (j:Nat):(L.take j).flatten.length<=L.flatten.length:=by rw [Mw L j,bD];omega
def ux {L:List Y} {j:Nat} {r} (a:r∈(L.take j).flatten):r∈L.flatten:=by rw [Mw L j];exact hP _ a
def l6 {L:List Y} {j:Nat} {rows} (a:L[j]? =some rows):(L.take (j+1)).flatten=(L.take j).flatten++rows:=by rw [fg,a];simp
def wG {y z:aa} {ky i:Y} (b:F y ky) (c:F z i): ∀(j:Nat) r,([[y],[z]]:Y)[j]? =some r-> ∃v rows,r= [v]/\F v rows/\ [ky,i][j]? =some rows
 |0,r,a=>by cases a;exact ⟨y,ky,rfl,b,rfl⟩
 |1,r,a=>by cases a;exact ⟨z,i,rfl,c,rfl⟩
 |j+2,r,a=>by simp at a
def FA:List aa:= [.str 0 0]
def oe:aW G 22=some (.slice 9):=aq
def nI:G.T 9=some t9:=aq
@[go_sem] theorem ac4:q_ G 22 .V=some (.int .i64 0):=aq
theorem Uy (N:Nat) (hN:N*(16+1)<=b7) (g:N<4294967296):ng G R 154 [.V,.int .i64 N] (λ_=>True) (λH v H'=>v=kM 9 1 N H []/\H'=jw 9 N FA H []):=by
 refine ng.run (m:=25) rfl rfl rfl rfl rfl rfl rfl rfl 0 λi j _ _ H h _=> ?_
 cases N with
 | zero=>
   have a:IntKind.i64.wrap (0-IntKind.i64.wrap (0-0))=0:=al;simp only [go_sem,Int.ofNat_zero,a];exact bn.mk ⟨rfl,ft (aT _)⟩
 | succ N=>
   have c:decide ((((N+1:Nat):Nat):Int)<0)=false:=by simp<;>omega
   have d:IntKind.i64.wrap (((N+1:Nat):Int)-IntKind.i64.wrap (0-0))=((N+1:Nat):Int):=by rw [show IntKind.i64.wrap (0-0)=0 by decide,wrap64 _ ab ab];omega
   have e:decide ((((N+1:Nat):Nat):Int)>0)=true:=by simp<;>omega
   have f:=AV (E:=G) (H:=H) (N:=N) (b:=16) (k:=1) oe (ti:=3) (ik:= .i64) aq nI rfl rfl al al z9 rfl rfl hN ab;simp only [go_sem,c,d,e,f,bH];refine bn.mk ⟨rfl,?_⟩;rw [vk _ _ _ (yA _ _ _ _ _ (aT _))];rfl
def Uo (X:aa) (d:Y) (L:List Y) (a:F X d) (A: ∀(j:Nat) r,d[j]? =some r-> ∃(v:aa) (rows:Y),r= [v]/\F v rows/\L[j]? =some rows) (l:d.length=L.length) (V:L.length<4611686018427387904)
    (o:Rows 1 L.flatten) (hN:L.flatten.length*(16+1)<=b7) (M:L.flatten.length<4294967296):dt 79 [X] (λw=>F w L.flatten) bQ:=by
 obtain ⟨Q,K⟩:=Uy L.flatten.length hN M;refine aL.run (m:=35) rfl rfl rfl rfl rfl (by simp only [aO,a.aD];rfl) rfl rfl (Q+L.length+1) λR S U W e B=> ?_;simp only [go_sem,a.O,a.len,l];generalize P:a1 _ _ _ _ _ _ _ _ _ _=n;revert n;have hF:=trivial;refine cv [0,9] (λc=> [(3,.int .i64 c)]) (λ_=>e) (λj c=>c=(L.take j).flatten.length) L.length 0 rfl ?_ ?_
 . rintro j _ t q rfl hF;obtain ⟨r,h⟩: ∃r,d[j]? =some r:=⟨d[j],by simp [l,q]⟩;obtain ⟨v,rows,rfl,i,g⟩:=A j r h;have p:=uw L (j+1);have u:(L.take (j+1)).flatten.length=(L.take j).flatten.length+rows.length:=by rw [l6 g,bD]
   have I:IntKind.i64.wrap ((((L.take j).flatten.length:Nat):Int)+((rows.length:Nat):Int))=(((L.take (j+1)).flatten.length:Nat):Int):=by rw [wrap64 _ ab ab];omega
   have D:decide ((((L.take (j+1)).flatten.length:Nat):Int)<0)=false:=by simp<;>omega
   simp only [go_sem,hF,a.O,a.a_ (k:=1) h rfl,i.O,i.len,I,D];exact au.next _ rfl rfl ay
 . rintro _ t rfl hF;rw [bX] at hF;obtain ⟨v,T,⟨rfl,rfl⟩,u⟩:=K R S ab ab e B trivial;simp only [go_sem,hF,u,pe,a.O,a.len,l];generalize P:a1 _ _ _ _ _ _ _ _ _ _=n;revert n;refine cv [25] (λc=> [(6,kM 9 1 L.flatten.length e c)]) (λc=>jw 9 L.flatten.length FA e c) (λj c=>c=(L.take j).flatten) L.length [] rfl ?_ ?_
   . rintro j _ t q rfl f;obtain ⟨r,h⟩: ∃r,d[j]? =some r:=⟨d[j],by simp [l,q]⟩;obtain ⟨v,rows,rfl,i,g⟩:=A j r h;have p:=uw L (j+1);rw [l6 g,bD] at p;have y:Rows 1 rows:=λr s=>o r (ux (j:=j+1) (by rw [l6 g];exact h7 _ s));have C:=EI (E:=G) (H:=e) (N:=L.flatten.length) (z:=FA) (b:=16) (k:=1) (rows:=(L.take j).flatten) (aQ:=rows) (x:=v) oe nI rfl rfl al al (λr s=>o r (ux s)) rfl (dR i y.len) y p hN;simp only [go_sem,f,a.O,a.a_ (k:=1) h rfl,i.O,pe,C,bH];exact au.next _ rfl (l6 g).symm (by simp only [go_sem,f])
   . rintro _ t rfl f;rw [bX] at f;simp only [go_sem,f,bX,pe,EH];exact ak.EG al B o rfl λw J=>J
def FB:List aa:= [.int .i64 0,.int .i64 0,.str 0 0,.str 0 0,.V,.V]
def MZ:aW G 33=some (.slice 35):=aq
def yf:G.T 35=some t35:=aq
@[go_sem] theorem ac5:q_ G 33 .V=some (.int .i64 0):=aq
theorem Uz (N:Nat) (hN:N*(96+1)<=b7) (g:N<4294967296):ng G R 197 [.V,.int .i64 N] (λ_=>True) (λH v H'=>v=kM 35 6 N H []/\H'=jw 35 N FB H []):=by
 refine ng.run (m:=25) rfl rfl rfl rfl rfl rfl rfl rfl 0 λi j _ _ H h _=> ?_
 cases N with
 | zero=>
   have a:IntKind.i64.wrap (0-IntKind.i64.wrap (0-0))=0:=al;simp only [go_sem,Int.ofNat_zero,a];exact bn.mk ⟨rfl,ft (aT _)⟩
 | succ N=>
   have c:decide ((((N+1:Nat):Nat):Int)<0)=false:=by simp<;>omega
   have d:IntKind.i64.wrap (((N+1:Nat):Int)-IntKind.i64.wrap (0-0))=((N+1:Nat):Int):=by rw [show IntKind.i64.wrap (0-0)=0 by decide,wrap64 _ ab ab];omega
   have e:decide ((((N+1:Nat):Nat):Int)>0)=true:=by simp<;>omega
   have f:=AV (E:=G) (H:=H) (N:=N) (b:=96) (k:=6) MZ (ti:=3) (ik:= .i64) aq yf rfl rfl al al acf rfl rfl hN ab;simp only [go_sem,c,d,e,f,bH];refine bn.mk ⟨rfl,?_⟩;rw [vk _ _ _ (yA _ _ _ _ _ (aT _))];rfl
def I7 (X:aa) (d:Y) (L:List Y) (a:F X d) (A: ∀(j:Nat) r,d[j]? =some r-> ∃(v:aa) (rows:Y),r= [v]/\F v rows/\L[j]? =some rows) (l:d.length=L.length) (V:L.length<4611686018427387904)
    (o:Rows 6 L.flatten) (hN:L.flatten.length*(96+1)<=b7) (M:L.flatten.length<4294967296):dt 133 [X] (λw=>F w L.flatten) bQ:=by
 obtain ⟨Q,K⟩:=Uz L.flatten.length hN M;refine aL.run (m:=35) rfl rfl rfl rfl rfl (by simp only [aO,a.aD];rfl) rfl rfl (Q+L.length+1) λR S U W e B=> ?_;simp only [go_sem,a.O,a.len,l];generalize P:a1 _ _ _ _ _ _ _ _ _ _=n;revert n;have hF:=trivial;refine cv [0,9] (λc=> [(3,.int .i64 c)]) (λ_=>e) (λj c=>c=(L.take j).flatten.length) L.length 0 rfl ?_ ?_
 . rintro j _ t q rfl hF;obtain ⟨r,h⟩: ∃r,d[j]? =some r:=⟨d[j],by simp [l,q]⟩;obtain ⟨v,rows,rfl,i,g⟩:=A j r h;have p:=uw L (j+1);have u:(L.take (j+1)).flatten.length=(L.take j).flatten.length+rows.length:=by rw [l6 g,bD]
   have I:IntKind.i64.wrap ((((L.take j).flatten.length:Nat):Int)+((rows.length:Nat):Int))=(((L.take (j+1)).flatten.length:Nat):Int):=by rw [wrap64 _ ab ab];omega
   have D:decide ((((L.take (j+1)).flatten.length:Nat):Int)<0)=false:=by simp<;>omega
   simp only [go_sem,hF,a.O,a.a_ (k:=1) h rfl,i.O,i.len,I,D];exact au.next _ rfl rfl ay
 . rintro _ t rfl hF;rw [bX] at hF;obtain ⟨v,T,⟨rfl,rfl⟩,u⟩:=K R S ab ab e B trivial;simp only [go_sem,hF,u,pe,a.O,a.len,l];generalize P:a1 _ _ _ _ _ _ _ _ _ _=n;revert n;refine cv [25] (λc=> [(6,kM 35 6 L.flatten.length e c)]) (λc=>jw 35 L.flatten.length FB e c) (λj c=>c=(L.take j).flatten) L.length [] rfl ?_ ?_
   . rintro j _ t q rfl f;obtain ⟨r,h⟩: ∃r,d[j]? =some r:=⟨d[j],by simp [l,q]⟩;obtain ⟨v,rows,rfl,i,g⟩:=A j r h;have p:=uw L (j+1);rw [l6 g,bD] at p;have y:Rows 6 rows:=λr s=>o r (ux (j:=j+1) (by rw [l6 g];exact h7 _ s));have C:=EI (E:=G) (H:=e) (N:=L.flatten.length) (z:=FB) (b:=96) (k:=6) (rows:=(L.take j).flatten) (aQ:=rows) (x:=v) MZ yf rfl rfl al al (λr s=>o r (ux s)) rfl (dR i y.len) y p hN;simp only [go_sem,f,a.O,a.a_ (k:=1) h rfl,i.O,pe,C,bH];exact au.next _ rfl (l6 g).symm (by simp only [go_sem,f])
   . rintro _ t rfl f;rw [bX] at f;simp only [go_sem,f,bX,pe,EH];exact ak.EG al B o rfl λw J=>J
def Fz:List aa:= [.str 0 0,.str 0 0,.int .i64 0,.int .i64 0,.str 0 0,.str 0 0,.V,.V,.int .i64 0,.int .i64 0]
def MY:aW G 28=some (.slice 83):=aq
def B4:G.T 83=some t83:=aq
@[go_sem] theorem ac3:q_ G 28 .V=some (.int .i64 0):=aq
theorem Ux (N:Nat) (hN:N*(144+1)<=b7) (g:N<4294967296):ng G R 192 [.V,.int .i64 N] (λ_=>True) (λH v H'=>v=kM 83 10 N H []/\H'=jw 83 N Fz H []):=by
 refine ng.run (m:=25) rfl rfl rfl rfl rfl rfl rfl rfl 0 λi j _ _ H h _=> ?_
 cases N with
 | zero=>
   have a:IntKind.i64.wrap (0-IntKind.i64.wrap (0-0))=0:=al;simp only [go_sem,Int.ofNat_zero,a];exact bn.mk ⟨rfl,ft (aT _)⟩
 | succ N=>
   have c:decide ((((N+1:Nat):Nat):Int)<0)=false:=by simp<;>omega
   have d:IntKind.i64.wrap (((N+1:Nat):Int)-IntKind.i64.wrap (0-0))=((N+1:Nat):Int):=by rw [show IntKind.i64.wrap (0-0)=0 by decide,wrap64 _ ab ab];omega
   have e:decide ((((N+1:Nat):Nat):Int)>0)=true:=by simp<;>omega
   have f:=AV (E:=G) (H:=H) (N:=N) (b:=144) (k:=10) MY (ti:=3) (ik:= .i64) aq B4 rfl rfl al al acg rfl rfl hN ab;simp only [go_sem,c,d,e,f,bH];refine bn.mk ⟨rfl,?_⟩;rw [vk _ _ _ (yA _ _ _ _ _ (aT _))];rfl
def Ds (X:aa) (d:Y) (L:List Y) (a:F X d) (A: ∀(j:Nat) r,d[j]? =some r-> ∃(v:aa) (rows:Y),r= [v]/\F v rows/\L[j]? =some rows) (l:d.length=L.length) (V:L.length<4611686018427387904)
    (o:Rows 10 L.flatten) (hN:L.flatten.length*(144+1)<=b7) (M:L.flatten.length<4294967296):dt 129 [X] (λw=>F w L.flatten) bQ:=by
 obtain ⟨Q,K⟩:=Ux L.flatten.length hN M;refine aL.run (m:=35) rfl rfl rfl rfl rfl (by simp only [aO,a.aD];rfl) rfl rfl (Q+L.length+1) λR S U W e B=> ?_;simp only [go_sem,a.O,a.len,l];generalize P:a1 _ _ _ _ _ _ _ _ _ _=n;revert n;have hF:=trivial;refine cv [0,9] (λc=> [(3,.int .i64 c)]) (λ_=>e) (λj c=>c=(L.take j).flatten.length) L.length 0 rfl ?_ ?_
 . rintro j _ t q rfl hF;obtain ⟨r,h⟩: ∃r,d[j]? =some r:=⟨d[j],by simp [l,q]⟩;obtain ⟨v,rows,rfl,i,g⟩:=A j r h;have p:=uw L (j+1);have u:(L.take (j+1)).flatten.length=(L.take j).flatten.length+rows.length:=by rw [l6 g,bD]
   have I:IntKind.i64.wrap ((((L.take j).flatten.length:Nat):Int)+((rows.length:Nat):Int))=(((L.take (j+1)).flatten.length:Nat):Int):=by rw [wrap64 _ ab ab];omega
   have D:decide ((((L.take (j+1)).flatten.length:Nat):Int)<0)=false:=by simp<;>omega
   simp only [go_sem,hF,a.O,a.a_ (k:=1) h rfl,i.O,i.len,I,D];exact au.next _ rfl rfl ay
 . rintro _ t rfl hF;rw [bX] at hF;obtain ⟨v,T,⟨rfl,rfl⟩,u⟩:=K R S ab ab e B trivial;simp only [go_sem,hF,u,pe,a.O,a.len,l];generalize P:a1 _ _ _ _ _ _ _ _ _ _=n;revert n;refine cv [25] (λc=> [(6,kM 83 10 L.flatten.length e c)]) (λc=>jw 83 L.flatten.length Fz e c) (λj c=>c=(L.take j).flatten) L.length [] rfl ?_ ?_
   . rintro j _ t q rfl f;obtain ⟨r,h⟩: ∃r,d[j]? =some r:=⟨d[j],by simp [l,q]⟩;obtain ⟨v,rows,rfl,i,g⟩:=A j r h;have p:=uw L (j+1);rw [l6 g,bD] at p;have y:Rows 10 rows:=λr s=>o r (ux (j:=j+1) (by rw [l6 g];exact h7 _ s));have C:=EI (E:=G) (H:=e) (N:=L.flatten.length) (z:=Fz) (b:=144) (k:=10) (rows:=(L.take j).flatten) (aQ:=rows) (x:=v) MY B4 rfl rfl al al (λr s=>o r (ux s)) rfl (dR i y.len) y p hN;simp only [go_sem,f,a.O,a.a_ (k:=1) h rfl,i.O,pe,C,bH];exact au.next _ rfl (l6 g).symm (by simp only [go_sem,f])
   . rintro _ t rfl f;rw [bX] at f;simp only [go_sem,f,bX,pe,EH];exact ak.EG al B o rfl λw J=>J
def Pk (m i:Nat):en m i<256:=by unfold en;exact tF _ al
def hp (b l m:Nat):aa:=match mK b l m 0 with
 |some a=> .int .i64 (a:Nat)
 |none=> .int .i64 (-1)
theorem UB (l m b:Nat) (a:b<256):K 289 [.str l m,.int .u8 b] (hp b l m):=by
 refine C.cL (p:=r0) rfl rfl rfl ?_ λc=> ?_
 . unfold hp;split<;>rfl
 . show (match Nat.blt b 256 with|true=>_|false=>_)=_;rw [show Nat.blt b 256=true from h_ a];unfold hp;cases mK b l m 0<;>simp<;>rfl
def UA (l m b:Nat) (n:b<256):K 313 [.str l m,.int .u8 b] (hp b l m):=by
 have d:K 227 [.str l m,.int .u8 b] (hp b l m):=by obtain ⟨d,a⟩:=UB l m b n;refine C.run (m:=6) rfl rfl rfl rfl rfl rfl rfl rfl d λi j g h f c=> ?_;have a:=λk=>a i j g h f k c;simp only [go_sem,a];unfold hp;split<;>exact e.mk rfl c (U.refl _)
 obtain ⟨d,a⟩:=d;refine C.run (m:=6) rfl rfl rfl rfl rfl rfl rfl rfl d λi j g h f c=> ?_;have a:=λk=>a i j g h f k c;simp only [go_sem,a];unfold hp;split<;>exact e.mk rfl c (U.refl _)
def CB (b l m:Nat): ∃i,hp b l m= .int .i64 i:=by unfold hp;split<;>exact ⟨_,rfl⟩
def UR (l m:Nat) (w:T l m):dt 249 [.str l m] dI bQ:=by
 obtain ⟨x,d⟩:=C.all (l:=List.range l) (f:=171) (g:=λa=> [.int .u8 (en m a:Nat)]) (v:=λa=> .bool (qd (en m a))) λa _=>Dv _;obtain ⟨y,b⟩:=C.all (l:=List.range l) (f:=313) (g:=λa=> [.str 3 6039330,.int .u8 (en m a:Nat)]) (v:=λa=>hp (en m a) 3 6039330) λa _=>UA _ _ _ (Pk _ _);refine aL.run (m:=35) rfl rfl rfl rfl rfl rfl rfl rfl (x+y+22) λo p D E k c=> ?_;have d:=λa e h=>d o p ab ab a e k h c;have b:=λa e h=>b o p ab ab a e k h c;have r:(l==0&&m==0)=decide (l=0):=by rw [jU];simp;exact w.zero
 simp only [go_sem,r];refine ak.aE ?_ ?_<;>intro t<;>simp only [go_sem,t]
 . exact ak.bW c (U.refl _)
 refine ak.aE ?_ ?_<;>intro n<;>simp only [go_sem,n]
 . exact ak.bW c (U.refl _)
 have A:l<=20:=by simp at n;omega
 generalize B:a1 _ _ _ _ _ _ _ _ _ _=q;revert q;have hF:=trivial;refine dA [0] (λ_=>True) l trivial ?_ ?_
 . intro j z h i u hF;obtain ⟨a,e⟩:=CB (en m j) 3 6039330;have d:=d j (h9.2 i);have b:=b j (h9.2 i);rw [e] at b;simp only [go_sem,hF,i]
   iterate 4 all_goals try (refine au.aE ?_ ?_<;>intro s<;>simp only [go_sem,hF,s,d,b])
   all_goals first
    |exact au.next () rfl trivial ay
    |exact au.stop rfl (by simp only [go_sem,hF];exact ak.bW c (U.refl _))
 . intro z h u hF;simp only [go_sem,hF];exact ak.bW c (U.refl _)
def q7:Y:=match sW with
 | .A a _=>a
 |_=> []
def OF:F sW q7/\b8 q7/\q7.length<100:=by
 refine ⟨.inr ⟨_,rfl⟩,λd e=> ?_,al⟩;have f:q7.all (λd=>match d with| [.str b c]=>decide (c<256^b)&&decide (b<100)|_=>false)=true:=by decide+kernel
 have a:=ba.1 f d e
 try simp only at a
 split at a
 . rename_i b c;simp only [br,decide_eq_true_eq] at a;exact ⟨b,c,rfl,a.1,ab⟩
 . cases a
def Dq (l m:Nat):K 179 [.str l m] (.bool (q7.any (isStr l m))):=by
 obtain ⟨g,k,j⟩:=OF;obtain ⟨n,a⟩:K 246 sN sW:=C.cL (p:=rZ sN sW) rfl rfl rfl rfl λb=>by unfold rZ;rw [show eu sN sN=true by kernel_rfl]
 obtain ⟨o,c⟩:=Uu sW q7 l m g k ab;refine C.run (m:=5) rfl rfl rfl rfl rfl rfl rfl rfl (n+o) λh i q j b d=> ?_;have a:=λf=>a h i ab ab b f d;have c:=λf=>c h i ab ab b f d;simp only [sN] at a;simp only [go_sem,a,g.O,c];exact e.mk rfl d (U.refl _)
def sG {p:Prop} {f:Nat} {args:List aa} {ad n:Nat} {H:af} (a:(∃v,j9 p v/\ ∀tm,az G (X G R ad n) f args H tm= .ok v tm H)\/(∃v,bQ v/\ ∀tm,az G (X G R ad n) f args H tm= .aK v H)):
    ∃b:Bool,(b=true->p)/\ ∀tm,az G (X G R ad n) f args H tm= .ok (.bool b) tm H:=by
 rcases a with ⟨v,⟨b,rfl,d⟩,c⟩|⟨v,a,-⟩
 . exact ⟨b,d,c⟩
 . exact a.elim
def ie (r:List aa):aa:=M r 0
def ic (r:List aa):aa:=M r 0
def ib (r:List aa):aa:= .agg r
def isInt (a:Int):aa->Bool
 | .int _ b=>a==b
 |_=>false
def IS (a b c d:Nat):aa->Bool
 | .agg [.str e f,.str g h]=>(a==e&&b==f)&&(c==g&&d==h)
 |_=>false
def eqStr (r:List aa):aa->Bool:=match r with
 | [.str a b]=>cU a b
 |_=>λ_=>false
def vd (r:List aa):aa->Bool:=match r with
 | [.int _ a]=>isInt a
 |_=>λ_=>false
def vc (r:List aa):aa->Bool:=match r with
 | [.str a b,.str c d]=>IS a b c d
 |_=>λ_=>false
def ox (r:List aa):Prop:= ∃a,r= [.int .i64 a]
def oy (r:List aa):Prop:= ∃a b,r= [.str a b]/\T a b/\a<4611686018427387904
def gd (r:List aa):Prop:= ∃a c b d,r= [.str a c,.str b d]/\T a c/\T b d/\a<4611686018427387904/\b<4611686018427387904
structure fB (r:List aa) (l m:Nat) (args:Y) (ls ms:Nat) (st:Y):Prop where
  eq: ∃a p s i j,r= [.str l m,a,.str ls ms,p,.int .i64 i,.int .i64 j,s]/\F a args/\F s st/\(∃gm,F p gm/\gm.length<1048560/\ ∀q∈gm,gd q)
  c5:T l m
  pw:T ls ms
  s1:l<4611686018427387904
  s2:ls<4611686018427387904
  hS:b8 args
  zk:args.length<4611686018427387904
  rs: ∀r∈st,∃i,r= [.int .i64 i]
  rS:st.length<4611686018427387904
def c6 (r:List aa):Prop:= ∃b d a c e f,fB r b d a c e f
theorem c6.len {r} (a:c6 r):r.length=7:=by obtain ⟨f,h,c,g,i,l,⟨⟨b,j,k,d,e,rfl,-⟩,-⟩⟩:=a;rfl
def JJ {r} (c:oy r):hr G 20 9 (ie r)=true:=by obtain ⟨a,b,rfl,-⟩:=c;exact DF G lA 19 a b
theorem JI {r} (a:ox r):hr G 20 3 (ic r)=true:=by obtain ⟨b,rfl⟩:=a;rfl
theorem JH {r} (a:gd r):hr G 20 166 (ib r)=true:=by obtain ⟨b,c,d,e,rfl,-⟩:=a;rfl
def Q2 {r s} (e:oy r) (g:oy s):eF G 20 9 (ie r) (ie s)=some (eqStr r (ie s)):=by
 obtain ⟨a,b,rfl,-⟩:=e;obtain ⟨c,d,rfl,-⟩:=g;exact Hk G lA 19 a b c d
theorem Q1 {r s} (a:ox r) (g:ox s):eF G 20 3 (ic r) (ic s)=some (vd r (ic s)):=by obtain ⟨b,rfl⟩:=a;obtain ⟨c,rfl⟩:=g;rfl
theorem Q0 {r s} (j:gd r) (g:gd s):eF G 20 166 (ib r) (ib s)=some (vc r (ib s)):=by obtain ⟨a,c,e,h,rfl,-⟩:=j;obtain ⟨b,d,f,i,rfl,-⟩:=g;show (match some (a==b&&c==d) with|some true=>(match some (e==f&&h==i) with|some true=>some true|some false=>some false|none=>none)|some false=>some false|none=>none)=some ((a==b&&c==d)&&(e==f&&h==i));cases (a==b&&c==d)<;>cases (e==f&&h==i)<;>rfl
theorem Lu {r} (a:oy r):r.length=1:=by obtain ⟨b,c,rfl,-⟩:=a;rfl
theorem Ls {r} (a:ox r):r.length=1:=by obtain ⟨b,rfl⟩:=a;rfl
theorem EJ {r} (a:gd r):r.length=2:=by obtain ⟨b,c,d,e,rfl,-⟩:=a;rfl
def Q5 {r s} (a:oy r) (g:oy s) (e:eqStr r (ie s)=false):s≠r:=by
 rintro rfl;obtain ⟨b,c,rfl,-⟩:=a;simp [eqStr,ie,cU,jj] at e
def Q4 {r s} (a:ox r) (g:ox s) (e:vd r (ic s)=false):s≠r:=by
 rintro rfl;obtain ⟨b,rfl⟩:=a;simp [vd,ic,isInt,jj] at e
def Q3 {r s} (a:gd r) (g:gd s) (e:vc r (ib s)=false):s≠r:=by
 rintro rfl;obtain ⟨b,c,d,f,rfl,-⟩:=a;simp [vc,ib,IS] at e
def VP (M:Nat) (Q:M<4611686018427387904):bo λad n=> ∀x rows H,(∀r∈rows,oy r)->rows.length<=M->Tidy H->cG H 1 x rows->
    ∃b:Bool,(b=true->rows.Pairwise (· ≠ ·))/\ ∀tm,az G (X G R ad n) 111 [x] H tm= .ok (.bool b) tm H:=by
 refine ⟨M+2,λad n S V x rows H j T u g=> ?_⟩;obtain ⟨n,rfl⟩:=bY n;have D: ∀r∈rows,r.length=1:=λr f=>Lu (j r f);refine sG (aL.at (m:=18) rfl rfl rfl rfl rfl (by simp only [aO,g.aD];rfl) rfl rfl ?_);simp only [go_sem,g.O,g.len];generalize P:a1 _ _ _ _ _ _ _ _ _ _=w;revert w;refine hz _ _ _ _ (σ:=List aa) (λ_=> [(3,.map H.n),(7,x)]) (λo=>H.push (.map false o (iw o.length))) (λa o=>o=(rows.take a).map ie/\(rows.take a).Pairwise (· ≠ ·)) 19 rows.length [] rfl rfl (λ_=>rfl) rfl ⟨ai,ai⟩
  dC ab ab ?_ ?_
 . rintro a _ tm C ⟨rfl,i⟩ hF;obtain ⟨r,k⟩:=bA C;have E:=aV k;have e:=j r E;obtain ⟨W,I,J,K,L⟩:=(g.up u.1 ((U.refl H).push (.map false ((rows.take a).map ie) (iw ((rows.take a).map ie).length)))).at D k;have d: ∀c∈(rows.take a).map ie,eF G 20 9 (ie r) c=some (eqStr r c):=λc A=>by obtain ⟨p,l,rfl⟩:=cd.1 A;exact Q2 e (j p (hQ l))
   have F:((rows.take a).map ie).any (eqStr r)=false->(rows.take (a+1)).Pairwise (· ≠ ·):=λf=>by
    rw [fg,k];refine rH.2 ⟨i,C6 ..,λp l N d=> ?_⟩;have d:N=r:=by simpa using d
    subst d;refine Q5 e (j p (hQ l)) ?_;have z:=CP.1 f (ie p) (C3 l);simpa using z
   have q:=DZ G (t:=219) (H:=H) (qO G FO) z4 (JJ e) d;have h:=λtm B=>EA G (t:=219) (H:=H) (tm:=tm) (qO G FO) (JJ e) (by obtain ⟨c,b,rfl,-⟩:=e;rfl) d B;have y:(rows.take a).map ie++ [ie r]=(rows.take (a+1)).map ie:=by rw [fg,k];simp
   rw [y] at h;obtain ⟨c,b,rfl,-⟩:=e;simp only [ie,jj] at q h;have v:=L (.str c b) rfl;simp only [di] at K v q h;simp only [go_sem,hF,g.O,I,J,v,q];refine au.aE ?_ ?_<;>intro s<;>simp only [go_sem,hF,s]
   . refine au.stop rfl ?_;simp only [go_sem,hF];exact ak.gg u ((U.refl _).push _) λf=>by cases f
   . simp only [h _ s,go_sem];exact au.next ((rows.take (a+1)).map ie) (by simp only [di]) ⟨rfl,F s⟩ ay
 . rintro _ tm ⟨rfl,i⟩ hF;rw [bX] at i;simp only [go_sem,hF];exact ak.gg u ((U.refl _).push _) λ_=>i
def VO (M:Nat) (Q:M<4611686018427387904):bo λad n=> ∀x rows H,(∀r∈rows,ox r)->rows.length<=M->Tidy H->cG H 1 x rows->
    ∃b:Bool,(b=true->rows.Pairwise (· ≠ ·))/\ ∀tm,az G (X G R ad n) 182 [x] H tm= .ok (.bool b) tm H:=by
 refine ⟨M+2,λad n S V x rows H j T u g=> ?_⟩;obtain ⟨n,rfl⟩:=bY n;have D: ∀r∈rows,r.length=1:=λr f=>Ls (j r f);refine sG (aL.at (m:=18) rfl rfl rfl rfl rfl (by simp only [aO,g.aD];rfl) rfl rfl ?_);simp only [go_sem,g.O,g.len];generalize P:a1 _ _ _ _ _ _ _ _ _ _=w;revert w;refine hz _ _ _ _ (σ:=List aa) (λ_=> [(3,.map H.n),(7,x)]) (λo=>H.push (.map false o (iw o.length))) (λa o=>o=(rows.take a).map ic/\(rows.take a).Pairwise (· ≠ ·)) 19 rows.length [] rfl rfl (λ_=>rfl) rfl ⟨ai,ai⟩
  dC ab ab ?_ ?_
 . rintro a _ tm C ⟨rfl,i⟩ hF;obtain ⟨r,k⟩:=bA C;have E:=aV k;have e:=j r E;obtain ⟨W,I,J,K,L⟩:=(g.up u.1 ((U.refl H).push (.map false ((rows.take a).map ic) (iw ((rows.take a).map ic).length)))).at D k;have d: ∀c∈(rows.take a).map ic,eF G 20 3 (ic r) c=some (vd r c):=λc A=>by obtain ⟨p,l,rfl⟩:=cd.1 A;exact Q1 e (j p (hQ l))
   have F:((rows.take a).map ic).any (vd r)=false->(rows.take (a+1)).Pairwise (· ≠ ·):=λf=>by
    rw [fg,k];refine rH.2 ⟨i,C6 ..,λp l N d=> ?_⟩;have d:N=r:=by simpa using d
    subst d;refine Q4 e (j p (hQ l)) ?_;have z:=CP.1 f (ic p) (C3 l);simpa using z
   have q:=DZ G (t:=275) (H:=H) (qO G FQ) z4 (JI e) d;have h:=λtm B=>EA G (t:=275) (H:=H) (tm:=tm) (qO G FQ) (JI e) (by obtain ⟨c,rfl⟩:=e;rfl) d B;have y:(rows.take a).map ic++ [ic r]=(rows.take (a+1)).map ic:=by rw [fg,k];simp
   rw [y] at h;obtain ⟨c,rfl⟩:=e;simp only [ic,jj] at q h;have v:=L (.int .i64 c) rfl;simp only [di] at K v q h;simp only [go_sem,hF,g.O,I,J,v,q];refine au.aE ?_ ?_<;>intro s<;>simp only [go_sem,hF,s]
   . refine au.stop rfl ?_;simp only [go_sem,hF];exact ak.gg u ((U.refl _).push _) λf=>by cases f
   . simp only [h _ s,go_sem];exact au.next ((rows.take (a+1)).map ic) (by simp only [di]) ⟨rfl,F s⟩ ay
 . rintro _ tm ⟨rfl,i⟩ hF;rw [bX] at i;simp only [go_sem,hF];exact ak.gg u ((U.refl _).push _) λ_=>i
def VN (M:Nat) (S:M<4611686018427387904):bo λad n=> ∀x rows H,(∀r∈rows,gd r)->rows.length<=M->Tidy H->cG H 2 x rows->
    ∃b:Bool,(b=true->rows.Pairwise (· ≠ ·))/\ ∀tm,az G (X G R ad n) 110 [x] H tm= .ok (.bool b) tm H:=by
 refine ⟨M+2,λad n T W x rows H j V v g=> ?_⟩;obtain ⟨n,rfl⟩:=bY n;have F: ∀r∈rows,r.length=2:=λr f=>EJ (j r f);refine sG (aL.at (m:=18) rfl rfl rfl rfl rfl (by simp only [aO,g.aD];rfl) rfl rfl ?_);simp only [go_sem,g.O,g.len];generalize Q:a1 _ _ _ _ _ _ _ _ _ _=w;revert w;refine hz _ _ _ _ (σ:=List aa) (λ_=> [(3,.map H.n),(7,x)]) (λo=>H.push (.map false o (iw o.length))) (λa o=>o=(rows.take a).map ib/\(rows.take a).Pairwise (· ≠ ·)) 19 rows.length [] rfl rfl (λ_=>rfl) rfl ⟨ai,ai⟩
  dC ab ab ?_ ?_
 . rintro a _ tm E ⟨rfl,i⟩ hF;obtain ⟨r,k⟩:=bA E;have I:=aV k;have d:=j r I;obtain ⟨Z,K,L,u,Y⟩:=(g.up v.1 ((U.refl H).push (.map false ((rows.take a).map ib) (iw ((rows.take a).map ib).length)))).at F k;have c: ∀e∈(rows.take a).map ib,eF G 20 166 (ib r) e=some (vc r e):=λe C=>by obtain ⟨p,l,rfl⟩:=cd.1 C;exact Q0 d (j p (hQ l))
   have J:((rows.take a).map ib).any (vc r)=false->(rows.take (a+1)).Pairwise (· ≠ ·):=λf=>by
    rw [fg,k];refine rH.2 ⟨i,C6 ..,λp l P c=> ?_⟩;have c:P=r:=by simpa using c
    subst c;refine Q3 d (j p (hQ l)) ?_;have B:=CP.1 f (ib p) (C3 l);simpa using B
   have q:=DZ G (t:=218) (H:=H) (qO G FN) z4 (JH d) c;have h:=λtm D=>EA G (t:=218) (H:=H) (tm:=tm) (qO G FN) (JH d) (by obtain ⟨e,b,y,z,rfl,-⟩:=d;rfl) c D;have A:(rows.take a).map ib++ [ib r]=(rows.take (a+1)).map ib:=by rw [fg,k];simp
   rw [A] at h;obtain ⟨e,b,y,z,rfl,-⟩:=d;simp only [ib] at q h;have N:=u;simp only [di] at u N q h;simp only [go_sem,hF,g.O,K,L,u,q];refine au.aE ?_ ?_<;>intro s<;>simp only [go_sem,hF,s]
   . refine au.stop rfl ?_;simp only [go_sem,hF];exact ak.gg v ((U.refl _).push _) λf=>by cases f
   . simp only [h _ s,go_sem];exact au.next ((rows.take (a+1)).map ib) (by simp only [di]) ⟨rfl,J s⟩ ay
 . rintro _ tm ⟨rfl,i⟩ hF;rw [bX] at i;simp only [go_sem,hF];exact ak.gg v ((U.refl _).push _) λ_=>i
@[go_sem] theorem acZ (a b H):cT G 22 1 [(0,.str a b)] H=some (.A [[.str a b]] true,H):=aq
def Ju (x:aa) (rows:Y) (i:F x rows) (p: ∀r∈rows,c6 r) (ah:rows.length<=1000):
    ng G R 115 [x] (λ_=>True) (λH v H'=>bd H.n 9 1 rows.length H' (rows.map λr=> [M r 0]) v/\Tidy H'/\U H H'):=by
 refine ng.run (m:=18) rfl rfl rfl rfl rfl (by simp only [aO,i.aD];rfl) rfl rfl (rows.length+1) λao n ai aj H C _=> ?_;simp only [go_sem,i.O,i.len];generalize ag:a1 _ _ _ _ _ _ _ _ _ _=Q;revert Q;refine hz _ _ _ _ (σ:=aa×af) (λa=> [(3,a.1),(6,x)]) (λa=>a.2) (λd a=>bd H.n 9 1 d a.2 ((rows.take d).map λr=> [M r 0]) a.1/\Tidy a.2/\U H a.2) 19 rows.length (.V,H) rfl rfl (λ_=>rfl) rfl
  ⟨bd.nil,C,U.refl H⟩ dC ab ab ?_ ?_
 . rintro d ⟨v,P⟩ ad W ⟨c,h,e⟩ hF;simp only at c h e hF|-;obtain ⟨r,q⟩:=bA W;have X:=aV q;have y:=p r X;have o:Rows 1 ((rows.take d).map λr=> [M r 0]):=λL f=>by obtain ⟨a,g,rfl⟩:=cd.1 f;obtain ⟨j,l,t,E,I,N,⟨⟨s,K,a,D,d,rfl,-⟩,-⟩⟩:=p a (hQ g);exact ⟨rfl,λv c=>by rw [bs.1 c];exact ⟨rfl,rfl⟩⟩
   have u:(rows.take (d+1)).map (λr=> [M r 0])=(rows.take d).map (λr=> [M r 0])++ [[M r 0]]:=by rw [fg,q];simp
   have ak:=y.len;obtain ⟨j,l,t,E,I,N,⟨⟨s,K,a,D,an,rfl,T,g,⟨aq,Z,-⟩⟩,-⟩⟩:=y;simp only [jj] at u;obtain ⟨ae,H',S,z,w⟩:=c.app (x:= .A [[.str j l]] true) (b:=16) (k:=1) oe nI rfl rfl al al h e.n o (aQ:= [[.str j l]]) rfl (λL f=>by rw [bs.1 f];exact ⟨rfl,λv c=>by rw [bs.1 c];exact ⟨rfl,rfl⟩⟩)
    (by simp only [di,h6,cl,h5];unfold b7;omega) og
   simp only [go_sem,hF,i.O,i.a_ (k:=7) q rfl,T.J,g.J,Z.J,c.O,z.O,S];exact au.next (ae,H') rfl ⟨by rw [u];exact z,w.tidy,w.up H (aT _) e⟩ ay
 . rintro ⟨v,P⟩ ad ⟨c,h,e⟩ hF;simp only at c h e hF|-;rw [bX] at c;have o:Rows 1 (rows.map λr=> [M r 0]):=λL f=>by obtain ⟨a,g,rfl⟩:=cd.1 f;obtain ⟨j,l,t,E,I,N,⟨⟨s,K,a,D,d,rfl,-⟩,-⟩⟩:=p a g;exact ⟨rfl,λv c=>by rw [bs.1 c];exact ⟨rfl,rfl⟩⟩
   have B:=(c.cw o.len);simp only [go_sem,hF,B.O,B.aD];exact bn.mk (c.gc C h e)
def xh (r:List aa):Prop:=c6 r
def Lt {r} (a:xh r):r.length=7:=c6.len a
theorem Zm {r} (a:xh r):r.all J=true:=by obtain ⟨i,k,f,j,l,p,⟨⟨e,m,o,g,h,rfl,b,d,⟨n,c,-⟩⟩,-⟩⟩:=a;simp only [aO,b.J,d.J,c.J];rfl
theorem Zl {r} (a:gd r):r.all J=true:=by obtain ⟨b,c,d,e,rfl,-⟩:=a;rfl
def Lm {r} (a:oy r):(∀t,O t (M r 0)=M r 0)/\aD (M r 0)=true:=by obtain ⟨b,c,rfl,-⟩:=a;exact ⟨λ_=>rfl,rfl⟩
def Ll {r} (a:ox r):(∀t,O t (M r 0)=M r 0)/\aD (M r 0)=true:=by obtain ⟨b,rfl⟩:=a;exact ⟨λ_=>rfl,rfl⟩
def y9 (x fv:aa) (rows:Y) (p:List aa->Bool) (f:F x rows) (d: ∀r∈rows,oy r) (u:rows.length<4611686018427387904) (l:aD fv=true) (g: ∀t,O t fv=fv) (j:fv.cells= [fv]) (v:J fv=true)
    (ad n:Nat) (s:rows.length<ad) (H:af) (i:Tidy H) (o:y H.n 20 fv=true) (c: ∀a,U H a->Tidy a-> ∀r∈rows,∀tm,cx G (X G R ad n) fv [M r 0] a tm= .ok (.bool (p r)) tm a):
    ∀tm,az G (X G R ad (n+4)) 114 [x,fv] H tm= .ok (.bool (rows.all p)) tm H:=by
 have e:Tidy (H.push (.cells (q 146) (q 146) 0 [fv])):=i.push (by show [fv].all _=true;simp only [aO,kz (mN _) 20 fv o];rfl);have k:=Du x (.fn (.func 175) [] [.ptr H.n (q 146) 0 1]) rows (λr=> !p r) f (λr b=>Lu (d r b)) u rfl (λ_=>rfl) (λr b=>(Lm (d r b)).1) ad (n+1) s _ e (λr h tm=>by have c:=c _ ((U.refl H).push _) e r h;obtain ⟨z,w⟩:=Lm (d r h);simp only [eg,a6,bl];refine fa (aL.at (m:=6) rfl rfl rfl rfl rfl (by simp only [aO,w];rfl) rfl rfl ?_) tm;simp only [go_sem,z,dL,g,c];exact ak.mk rfl rfl e (U.refl _));refine fa (aL.at (m:=7) rfl rfl rfl rfl rfl (by simp only [aO,f.aD,l];rfl) rfl rfl ?_);simp only [go_sem,g,j,v,f.O,k];exact ak.mk (by rw [List.not_any_eq_all_not];simp) rfl i ((U.refl _).push _)
def U8 (x fv:aa) (rows:Y) (p:List aa->Bool) (f:F x rows) (d: ∀r∈rows,ox r) (u:rows.length<4611686018427387904) (l:aD fv=true) (g: ∀t,O t fv=fv) (j:fv.cells= [fv]) (v:J fv=true)
    (ad n:Nat) (s:rows.length<ad) (H:af) (i:Tidy H) (o:y H.n 20 fv=true) (c: ∀a,U H a->Tidy a-> ∀r∈rows,∀tm,cx G (X G R ad n) fv [M r 0] a tm= .ok (.bool (p r)) tm a):
    ∀tm,az G (X G R ad (n+4)) 181 [x,fv] H tm= .ok (.bool (rows.all p)) tm H:=by
 have e:Tidy (H.push (.cells (q 222) (q 222) 0 [fv])):=i.push (by show [fv].all _=true;simp only [aO,kz (mN _) 20 fv o];rfl);have k:=Ur x (.fn (.func 248) [] [.ptr H.n (q 222) 0 1]) rows (λr=> !p r) f (λr b=>Ls (d r b)) u rfl (λ_=>rfl) (λr b=>(Ll (d r b)).1) ad (n+1) s _ e (λr h tm=>by have c:=c _ ((U.refl H).push _) e r h;obtain ⟨z,w⟩:=Ll (d r h);simp only [eg,a6,bl];refine fa (aL.at (m:=6) rfl rfl rfl rfl rfl (by simp only [aO,w];rfl) rfl rfl ?_) tm;simp only [go_sem,z,dL,g,c];exact ak.mk rfl rfl e (U.refl _));refine fa (aL.at (m:=7) rfl rfl rfl rfl rfl (by simp only [aO,f.aD,l];rfl) rfl rfl ?_);simp only [go_sem,g,j,v,f.O,k];exact ak.mk (by rw [List.not_any_eq_all_not];simp) rfl i ((U.refl _).push _)
theorem b8.len {rows} (a:b8 rows): ∀r∈rows,r.length=1:=λr b=>by obtain ⟨c,d,rfl,-⟩:=a r b;rfl
def b8.rows {rows} (a:b8 rows):Rows 1 rows:=λd b=>by
 obtain ⟨e,f,rfl,-⟩:=a d b;exact ⟨rfl,λg c=>by rw [bs.1 c];exact ⟨rfl,rfl⟩⟩
def UK (M:Nat) (y:M<4611686018427387904):bo λad n=> ∀x rows l m H,b8 rows->rows.length<=M->Tidy H->cG H 1 x rows->
    ∃i,ni (isStr l m) rows i/\ ∀tm,az G (X G R ad n) 174 [x,.str l m] H tm= .ok (.int .i64 i) tm H:=by
 refine ⟨M+2,λad n z B x rows l m H h A j a=> ?_⟩;obtain ⟨n,rfl⟩:=bY n;refine oT (aL.at (m:=17) rfl rfl rfl rfl rfl (by simp only [aO,a.aD];rfl) rfl rfl ?_);simp only [go_sem,a.O,a.len];generalize w:a1 _ _ _ _ _ _ _ _ _ _=k;revert k;have hF:=trivial;refine dA [0,1] (λc=>(rows.take c).any (isStr l m)=false) rows.length rfl ?_ ?_
 . intro c t tm f b hF;obtain ⟨s,e⟩:=bA f;have g:=aV e;obtain ⟨D,o,p,C,q⟩:=a.at h.len e;obtain ⟨u,v,rfl,-⟩:=h s g;have r:=q _ rfl;simp only [go_sem,hF,a.O,o,p,r];refine au.aE ?_ ?_<;>intro d<;>simp only [go_sem,hF,d]
   . refine au.stop rfl ?_;simp only [go_sem,hF];exact ak.mk ⟨c,rfl,.inr ⟨c,rfl,f,kB.2 ⟨_,g,d⟩⟩⟩ rfl j (U.refl _)
   . exact au.next () rfl (nr e b d) ay
 . intro t tm b hF;rw [bX] at b;simp only [go_sem,hF];exact ak.mk ⟨-1,rfl,.inl ⟨rfl,b⟩⟩ rfl j (U.refl _)
def oZ (M:Nat) (f:M<4611686018427387904):bo λad n=> ∀x rows l m H,b8 rows->rows.length<=M->Tidy H->cG H 1 x rows->
    ∀tm,az G (X G R ad n) 113 [x,.str l m] H tm= .ok (.bool (rows.any (isStr l m))) tm H:=by
 obtain ⟨j,e⟩:=UK M f;refine ⟨j+1,λad n k o x rows l m H i h c b=> ?_⟩;obtain ⟨n,rfl⟩:=bY n;obtain ⟨p,g,d⟩:=e ad n ab ab x rows l m H i h c b;refine fa (aL.at (m:=7) rfl rfl rfl rfl rfl (by simp only [aO,b.aD];rfl) rfl rfl ?_);simp only [go_sem,b.O,d];refine ak.mk ?_ rfl c (U.refl _);rcases g with ⟨rfl,a⟩|⟨q,rfl,-,a⟩
 . rw [a];rfl
 . rw [a];congr 1
def nz (x:List aa) (a:Y) (r:List aa):Y:=match r with
 | [.str d e,.str b c]=>if isStr d e x&& !(a.any (isStr b c)) then a++ [[.str b c]] else a
 |_=>a
def GJ (be:Y) (x:List aa) (a:Y):Y:=be.foldl (nz x) a
def fp (be:Y) (a b:Nat):Nat->Y
 |0=> [[.str a b]]
 | j+1=>match (fp be a b j)[j]? with
   |some c=>GJ be c (fp be a b j)
   |none=>fp be a b j
def ny (be:Y) (a b:Nat):Y:=fp be a b (be.length+1)
def vu (c:Y) (r:List aa):Bool:=match r with
 | [.str _ _,.str a b]=>c.any (isStr a b)
 |_=>false
def kU (be a:Y):Prop:=b8 a/\a.length<=1+be.countP (vu a)
def GP {α:Type} {p q:α->Bool}: ∀ {l:List α} {r:α},(∀x∈l,p x=true->q x=true)->r∈l->p r=false->q r=true->l.countP p+1<=l.countP q
 | [],_,_,a,_,_=>by cases a
 | e ::l,r,a,c,f,g=>by
   have h:l.countP p<=l.countP q:=List.countP_mono_left λx d=>a x (h8 _ d);rcases b2.1 c with rfl|c
   . simp only [List.countP_cons,f,g];simp;omega
   . have:=GP (λx d=>a x (h8 _ d)) c f g;simp only [List.countP_cons];by_cases b:p e=true
     . rw [if_pos b,if_pos (a e (dF ..) b)];omega
     . rw [if_neg b];omega
def kU.step {be c:Y} (f:kU be c) {r:List aa} (a:r∈be) (m:gd r) (x:List aa):kU be (nz x c r):=by
 obtain ⟨h,i,d,e,rfl,-,j,-,k⟩:=m;simp only [nz];split
 . rename_i g;simp only [br,oV] at g;refine ⟨λr a=> ?_,?_⟩
   . rcases cr.1 a with a|a
     . exact f.1 r a
     . rw [bs.1 a];exact ⟨d,e,rfl,j,k⟩
   . have n:=f.2;have o:=GP (p:=vu c) (q:=vu (c++ [[.str d e]])) (l:=be) (r:= [.str h i,.str d e]) (λx _ b=>by
      unfold vu at b|-;split at b
      . simp only [List.any_append,b,yI]
      . cases b) a g.2 (by simp [vu,isStr])
     rw [bD,yQ];omega
 . exact f
def kU.fold {be:Y} (c: ∀r∈be,gd r) (x:List aa): ∀(l:Y) {d},(∀r∈l,r∈be)->kU be d->kU be (l.foldl (nz x) d)
 | [],_,_,a=>a
 |r::l,_,b,a=>kU.fold c x l (λf e=>b f (h8 _ e)) (a.step (b r (dF ..)) (c r (b r (dF ..))) x)
def xI {be:Y} (c: ∀r∈be,gd r) {a b:Nat} (e:T a b) (d:a<4611686018427387904): ∀j,kU be (fp be a b j)
 |0=>⟨λr h=>by rw [bs.1 h];exact ⟨a,b,rfl,e,d⟩,by simp [fp]⟩
 | j+1=>by
   have f:=xI c e d j;simp only [fp];split
   . exact kU.fold c _ be (λ_ g=>g) f
   . exact f
def kU.len {be a:Y} (b:kU be a):a.length<=1+be.length:=eT b.2 (Nat.add_le_add_left List.countP_le_length _)
def GK {be:Y} {a b:Nat} {j:Nat} (c:(fp be a b j).length<=j): ∀i,fp be a b (j+i)=fp be a b j
 |0=>rfl
 |i+1=>by have d:=GK c i;show (match (fp be a b (j+i))[j+i]? with|some e=>GJ be e (fp be a b (j+i))|none=>fp be a b (j+i))=_;rw [d,vQ ab]
def HO {x y:List aa} {j:Nat}: ∀(l:Y) {b:Y},b[j]? =some y->(l.foldl (nz x) b)[j]? =some y
 | [],_,a=>a
 | d ::l,b,a=>by
   refine HO l ?_;unfold nz;split
   . split
     . rw [yN]
       . exact a
       . by_cases c:j<b.length
         . exact c
         . rw [vQ ab] at a;cases a
     . exact a
   . exact a
def Vc (s:List aa) (jv:Y) (so be op cP bJ:aa) (aX:s= [so,be,op,cP,bJ]) (aR:J so=true/\J op=true/\J cP=true/\J bJ=true) (z:F be jv) (S: ∀r∈jv,gd r) (bj:jv.length<1048560)
    (a b:Nat) (aG:T a b) (aI:a<4611686018427387904):dt 81 [.agg s,.str a b] (λw=>F w (ny jv a b)) bQ:=by
 subst aX;obtain ⟨aK,aN,aO,aP⟩:=aR;obtain ⟨aZ,aE⟩:=oZ (jv.length+1) ab;refine aL.run (m:=43) rfl rfl rfl rfl rfl rfl rfl rfl (aZ+jv.length+5) λa6 a7 bg bk q aq=> ?_;simp only [go_sem,z.J,aK,aN,aO,aP];generalize aF:a1 _ _ _ _ _ _ _ _ _ _=L;revert L;refine rP _ _ _ _ (λc K v=> ∃C,bd q.n 9 1 (fp jv a b c).length v (fp jv a b c) C/\Tidy v/\U q v/\aM 45 [(2,.W 0 [so,be,op,cP,bJ]),(5,C),(6,.int .i64 c)] K) (jv.length+1) ab
  ⟨_,.inr (.inl rfl),aq,U.refl q,by simp only [go_sem];exact ⟨rfl,rfl⟩⟩ ?_
 rintro c K v bb ⟨C,B,aY,an,hF⟩;have I:=xI S aG aI c;have t:=B.cw I.1.len;have bc:=I.len;by_cases ai:c<(fp jv a b c).length
 . obtain ⟨f,ar⟩: ∃f,(fp jv a b c)[c]? =some f:=⟨(fp jv a b c)[c],by simp [ai]⟩;have P:decide (((c:Nat):Int)<(((fp jv a b c).length:Nat):Int))=true:=by simp;exact ai
   have aB:IntKind.i64.wrap ((c:Nat)+1)=((c+1:Nat):Int):=by rw [wrap64 _ ab ab];rfl
   simp only [go_sem,hF,t.O,t.len,P,z.len,z.O];generalize aF:a1 _ _ _ _ _ _ _ _ _ _=L;revert L;refine hz _ _ _ _ (σ:=Y×aa×af) (λs=> [(2,.W 0 [so,be,op,cP,bJ]),(5,s.2.1),(6,.int .i64 c),(18,be)]) (λs=>s.2.2)
    (λad s=>s.1=(jv.take ad).foldl (nz f) (fp jv a b c)/\bd q.n 9 1 s.1.length s.2.2 s.1 s.2.1/\Tidy s.2.2/\U q s.2.2) 45 jv.length (fp jv a b c,C,v) rfl rfl (λ_=>rfl) rfl ⟨rfl,B,aY,an⟩ ay ab ab ?_ ?_
   . rintro ad ⟨d,D,E⟩ K aH ⟨i,o,p,l⟩ e;simp only at i o p l e|-;obtain ⟨r,Z⟩:=bA aH;have aJ:=aV Z;have u:kU jv d:=by rw [i];exact kU.fold S f _ (λa8 X=>hQ X) I
     have bf:=u.len;have av:d[c]? =some f:=by rw [i];exact HO _ ar
     have y:=o.cw u.1.len;have V:nz f d r=(jv.take (ad+1)).foldl (nz f) (fp jv a b c):=by rw [fg,Z,List.foldl_append,<-i];rfl
     obtain ⟨bm,aj,aS,-,aU⟩:=y.at u.1.len av;obtain ⟨N,Q,rfl,-⟩:=u.1 f (aV av);have aW:=aU _ rfl;obtain ⟨ae,ag,g,h,rfl,-,bl,-,bh⟩:=S r aJ;have G:=aE a6 a7 ab ab D d g h E u.1 ab p y;obtain ⟨ba,aw,az,ao,ah⟩:=o.app (x:= .A [[.str g h]] true) (b:=16) (k:=1) oe nI rfl rfl al al p l.n u.1.rows (aQ:= [[.str g h]]) rfl (λa8 X=>by rw [bs.1 X];exact ⟨rfl,λC B=>by rw [bs.1 B];exact ⟨rfl,rfl⟩⟩)
      (by simp only [cl,h5];unfold b7;omega) og
     simp only [go_sem,e,z.O,z.a_ (k:=2) Z rfl,y.O,aj,aS,CI aj,aW];have M:nz [.str N Q] d [.str ae ag,.str g h]=if (ae==N&&ag==Q)&& !(d.any (isStr g h)) then d++ [[.str g h]] else d:=rfl
     cases R:(ae==N&&ag==Q) with
     | false=>
       simp only [go_sem,e];exact au.next (d,D,E) rfl ⟨by rw [<-V,M,R];rfl,o,p,l⟩ (by simp only [go_sem,e])
     | true=>
       cases H:d.any (isStr g h) with
       | true=>
         rw [H] at G;simp only [go_sem,e,y.O,G];exact au.next (d,D,E) rfl ⟨by rw [<-V,M,R,H];rfl,o,p,l⟩ (by simp only [go_sem,e])
       | false=>
         rw [H] at G;simp only [go_sem,e,y.O,ao.O,G,az];exact au.next (d++ [[.str g h]],ba,aw) rfl ⟨by rw [<-V,M,R,H];rfl,by simpa using ao,ah.tidy,ah.up q (aT _) l⟩ (by simp only [go_sem,e])
   . rintro ⟨d,D,E⟩ K ⟨i,o,p,l⟩ e;simp only at i o p l e|-;rw [bX] at i;have ax:fp jv a b (c+1)=d:=by rw [i];show (match (fp jv a b c)[c]? with|some f=>_|none=>_)=_;rw [ar];rfl
     simp only [go_sem,e,aB];exact dy.next (by show c<jv.length+1;omega) ⟨D,by rw [ax];exact o,p,l,by simp only [go_sem,e]⟩
 . have P:decide (((c:Nat):Int)<(((fp jv a b c).length:Nat):Int))=false:=da;have aA:ny jv a b=fp jv a b c:=by
    have:=GK (be:=jv) (a:=a) (b:=b) (j:=c) ab (jv.length+1-c)
    rwa [show c+(jv.length+1-c)=jv.length+1 by omega] at this
   simp only [go_sem,hF,t.O,t.len,P];refine dy.stop rfl ?_;simp only [go_sem,hF,t.O,t.aD];rw [aA];exact ak.W al aq I.1.rows B (aT _) an λw aC=>aC
end Go.aj
